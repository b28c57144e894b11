import PyProof.Rows.All
import Wide.All
import OpenK.AllK
import Wide.FinOn
import KE.KStateDown
import Lean
import HandS.Wide
import HandS.TupSets
import HandS.SetFor
import HandS.DictTup
import HandS.Zip
import HandS.Flow
import HandS.Head0
import HandS.Head1
import HandS.Head2
import HandS.HeadEnd
import HandS.HeadHook1
import HandS.HeadHook2
import HandS.Base
import HandS.Call
import HandS.List
import HandS.Comp
import HandS.Ends
import HandS.Dict
import HandS.Iter
import HandS.Text
import HandS.Exc
import HandS.Words
import HandS.WordsList
import HandS.Defaults
import HandS.IsInst
import HandS.Conv
import HandS.Strs
import KE.KDictWalk
import PyProof.DictMoreH
import HandS.SortRule
import HandS.Sort
import HandS.ClsMeth
import HandS.Style
import HandS.MakeKw
import PyProof.AssignAttr
import HandS.WordsDict
import KE.KEqDict
import HandS.ExcOwn
import HandS.ExcIs
import HandS.ExcValue
import HandS.TryOnly
import HandS.TryMany
import PySem.Challenge.RW_quietnet_k28_choice_refused
set_option Elab.async false
set_option linter.all false
set_option maxRecDepth 100000
set_option maxHeartbeats 4000000
namespace Q
open PySem PySem.Spec PyProof.Rows L2

/-! ### frames -/
/-- all but F is kept, tuples are kept -/
structure Fr (F : Addr → Prop) (H H' : Hp) : Prop where
  keep : ∀ b o, H b = some o → ¬ F b → H' b = some o
  tup : ∀ b xs, H b = some (.tup xs) → H' b = some (.tup xs)
  dom : ∀ b, H' b = none → H b = none
abbrev F0 : Addr → Prop := fun _ => False
theorem Fr.refl {F : Addr → Prop} (H : Hp) : Fr F H H := ⟨fun _ _ h _ => h, fun _ _ h => h, fun _ h => h⟩
theorem Fr.mono {F G : Addr → Prop} {H H' : Hp} (h : Fr F H H') (g : ∀ b, F b → G b) : Fr G H H' := ⟨fun b o e n => h.keep b o e fun z => n (g b z), h.tup, h.dom⟩
theorem Fr.any {F : Addr → Prop} {H H' : Hp} (h : Fr F0 H H') : Fr F H H' := h.mono fun _ z => z.elim
theorem Fr.trans {F : Addr → Prop} {H H1 H2 : Hp} (a : Fr F H H1) (b : Fr F H1 H2) : Fr F H H2 := ⟨fun c o e n => b.keep c o (a.keep c o e n) n, fun c xs e => b.tup c xs (a.tup c xs e), fun c e => a.dom c (b.dom c e)⟩
/-- the second step's own objects are of F, or new -/
theorem Fr.trans' {F G : Addr → Prop} {H H1 H2 : Hp} (a : Fr F H H1) (b : Fr G H1 H2) (g : ∀ c, G c → F c ∨ H c = none) : Fr F H H2 :=
  ⟨fun c o e n => b.keep c o (a.keep c o e n) (fun z => (g c z).elim n fun q => nomatch (e.symm.trans q)), fun c xs e => b.tup c xs (a.tup c xs e), fun c e => a.dom c (b.dom c e)⟩
theorem Fr.at0 {H H' : Hp} {b : Addr} {o : HO} (h : Fr F0 H H') (e : H b = some o) : H' b = some o := h.keep b o e id
theorem upd_dom {H : Hp} {p b : Addr} {o : HO} (h : upd H p o b = none) : H b = none := by
  unfold upd at h
  split at h
  · cases h
  · exact h
theorem Fr.new {F : Addr → Prop} {H : Hp} {p : Addr} {o : HO} (hp : H p = none) : Fr F H (upd H p o) :=
  ⟨fun b u e _ => by rw [upd_ne (ne_of_none e hp)]; exact e, fun b u e => by rw [upd_ne (ne_of_none e hp)]; exact e, fun _ h => upd_dom h⟩
theorem Fr.then_new {F : Addr → Prop} {H H' : Hp} {p : Addr} {o : HO} (a : Fr F H H') (hp : H' p = none) : Fr F H (upd H' p o) := a.trans (.new hp)
def noTup : HO → Prop
  | .tup _ => False
  | _ => True
theorem Fr.put {F : Addr → Prop} {H : Hp} {p : Addr} {o u : HO} (e : H p = some u) (nt : noTup u) (hF : F p) : Fr F H (upd H p o) :=
  ⟨fun b v eb n => (upd_ne (fun z : b = p => n (by rw [z]; exact hF))).trans eb, fun b xs eb => (upd_ne (fun z : b = p => by rw [z, e] at eb; cases eb; exact nt)).trans eb, fun _ h => upd_dom h⟩
theorem Fr.then_put {F : Addr → Prop} {H H' : Hp} {p : Addr} {o u : HO} (a : Fr F H H') (e : H' p = some u) (nt : noTup u) (hF : F p) : Fr F H (upd H' p o) := a.trans (.put e nt hF)
/-- what was new ahead of the first step may be changed -/
theorem Fr.then_put_new {F : Addr → Prop} {H H' : Hp} {p : Addr} {o : HO} (a : Fr F H H') (hp : H p = none) : Fr F H (upd H' p o) :=
  ⟨fun b v eb n => by rw [upd_ne (ne_of_none eb hp)]; exact a.keep b v eb n, fun b xs eb => by rw [upd_ne (ne_of_none eb hp)]; exact a.tup b xs eb, fun b h => a.dom b (upd_dom h)⟩
theorem Fr.back {F : Addr → Prop} {H H' : Hp} {p : Addr} (a : Fr F H H') (nF : ¬ F p) (hp : H' p = none) : H p = none := a.dom p hp
theorem Fr.back0 {H H' : Hp} {p : Addr} (a : Fr F0 H H') (hp : H' p = none) : H p = none := a.back id hp
theorem upd_none {H : Hp} {p q : Addr} {o : HO} : upd H q o p = none ↔ p ≠ q ∧ H p = none := by
  unfold upd
  by_cases h : p = q
  · simp [h]
  · simp [h]
theorem upd_at {H : Hp} {p q : Addr} {o u : HO} (e : H p = some u) (h : p ≠ q) : upd H q o p = some u := by rw [upd_ne h]; exact e
theorem upd_new {H : Hp} {p q : Addr} {o u : HO} (e : H p = some u) (h : H q = none) : upd H q o p = some u := upd_at e (ne_of_none e h)
theorem SqL.fr {K : PySem.W.Frag} {F : Addr → Prop} {H H' : Hp} {a : Addr} {xs : List V} (f : Fr F H H') (n : ¬ F a) (h : SqL K H a xs) : SqL K H' a xs := by
  rcases h with (h | ⟨o, h⟩) | h
  · exact .inl (.inl (f.keep _ _ h n))
  · exact .inl (.inr ⟨o, f.keep _ _ h n⟩)
  · exact .inr h

/-! ### defs by their promises -/
/-- what surrounds: the program, the world, the written part, the module's names, the heap at the law's entry -/
structure En where
  prog : Program
  w : World
  K : PySem.W.Frag
  mg : Str → Option Value
  base : Heap
abbrev enOf (X : Cx) : En := ⟨X.prog, X.w, X.K, X.mg, X.base⟩
abbrev FnG (G : En) (CX : CXT) (k : Nat) (f : Addr) (fd : FuncData) (ps : List Str) (sp : Sp) : Prop := FnOk G.prog G.w G.K G.mg G.base CX k f fd ps sp
structure CalX (G : En) (CX : CXT) (k : Nat) (x : Str) (sp : Sp) (dvs : List V) : Prop where
  ex : ∃ (f : Addr) (fd : FuncData) (ps : List Str) (ds : List Value), FnG G CX k f fd ps sp ∧ G.mg x = some (.ref f) ∧ PySem.W.keepIn G.K (.ref f) = true ∧ Binds G.K fd ps ds ∧ Vals dvs ds
structure MetX (G : En) (CX : CXT) (k : Nat) (C : Addr) (m : Str) (sp : Sp) (dvs : List V) : Prop where
  ex : ∃ (f : Addr) (fd : FuncData) (ps : List Str) (ds : List Value), Cls G.K C ∧ Meth G.K C m f ∧ FnG G CX k f fd ps sp ∧ Binds G.K fd ps ds ∧ Vals dvs ds
structure MakX (G : En) (CX : CXT) (k : Nat) (x : Str) (C : Addr) (sp : Sp) (dvs : List V) : Prop where
  ex : ∃ (f : Addr) (fd : FuncData) (ps : List Str) (ds : List Value), Mk G.K C f ∧ FnG G CX k f fd ps sp ∧ G.mg x = some (.ref C) ∧ Binds G.K fd ps ds ∧ Vals dvs ds
abbrev CalG (G : En) (k : Nat) (x : Str) (sp : Sp) (dvs : List V) : Prop := CalX G CX0 k x sp dvs
abbrev MetG (G : En) (k : Nat) (C : Addr) (m : Str) (sp : Sp) (dvs : List V) : Prop := MetX G CX0 k C m sp dvs
abbrev MakG (G : En) (k : Nat) (x : Str) (C : Addr) (sp : Sp) (dvs : List V) : Prop := MakX G CX0 k x C sp dvs

/-! ### readings -/
abbrev Stt := L2.St
def tCallQ (G : En) (j : Nat) (x : Str) (t : TA) : TE := fun σ H Q => ∃ k sp dvs, CalG G k x sp dvs ∧ k ≤ j ∧ t σ H fun vs H1 => sp (vs ++ dvs) H1 Q E0
def MakeG (C : Addr) (sp : Sp) (dvs vs : List V) (H1 : Hp) (Q : VK) : Prop := ∀ x dx, H1 x = none → H1 dx = none → dx ≠ x →
  sp (.ref x :: (vs ++ dvs)) (upd (upd H1 dx (.own x)) x (.ins C dx [])) (fun v H2 => v = .non ∧ Q (.ref x) H2) E0
def tMakeQ (G : En) (j : Nat) (x : Str) (t : TA) : TE := fun σ H Q => ∃ k C sp dvs, MakG G k x C sp dvs ∧ k + 1 ≤ j ∧ t σ H fun vs H1 => MakeG C sp dvs vs H1 Q
def FldG (K : PySem.W.Frag) (f : Str) (x : V) (H : Hp) (Q : VK) : Prop := ∃ a C dx fs v, x = .ref a ∧ H a = some (.ins C dx fs) ∧ Cls K C ∧ NoAttr K C f ∧ fs.lookup f = some v ∧ Q v H
def tFldQ (K : PySem.W.Frag) (ta : TE) (f : Str) : TE := fun σ H Q => ta σ H fun x H1 => FldG K f x H1 Q
def PutG (K : PySem.W.Frag) (f : Str) (x y : V) (H : Hp) (N : Hp → Prop) : Prop := ∃ a C dx fs, x = .ref a ∧ H a = some (.ins C dx fs) ∧ Cls K C ∧ NoAttr K C f ∧ fs.length < 1000 ∧ N (upd H a (.ins C dx (putF f y fs)))
def sFldQ (K : PySem.W.Frag) (ta tv : TE) (f : Str) : TS := fun D σ H => tv σ H fun y H1 => ta σ H1 fun x H2 => PutG K f x y H2 (D.nx σ)
def MethG (G : En) (j : Nat) (m : Str) (t : TA) (σ : Stt) (x : V) (H1 : Hp) (Q : VK) : Prop := ∃ a C dx fs k sp dvs, x = .ref a ∧ H1 a = some (.ins C dx fs) ∧ fs.lookup m = none ∧
  MetG G k C m sp dvs ∧ k ≤ j ∧ t σ H1 fun vs H2 => sp (.ref a :: (vs ++ dvs)) H2 Q E0
def tMethQ (G : En) (j : Nat) (m : Str) (ta : TE) (t : TA) : TE := fun σ H Q => ta σ H fun x H1 => MethG G j m t σ x H1 Q
def IsB (x : V) (H : Hp) (Q : Bool → Hp → Prop) : Prop := ∃ k, x = .bl k ∧ Q k H
def tTestQ (t : TE) : TT := fun σ H Q => t σ H fun x H' => IsB x H' Q
def rLen (K : PySem.W.Frag) : List V → Hp → VK → Prop := fun xs H Q => ∃ p ys, xs = [.ref p] ∧ (SqL K H p ys ∨ SqT K H p ys) ∧ Q (.int ys.length) H
def rListOf (K : PySem.W.Frag) : List V → Hp → VK → Prop := fun xs H Q => ∃ p ys, xs = [.ref p] ∧ (SqL K H p ys ∨ SqT K H p ys) ∧ ∀ l, H l = none → Q (.ref l) (upd H l (.lst ys))
def BmG (K : PySem.W.Frag) (T : String) (r : V → List V → Hp → VK → Prop) (t : TA) (σ : Stt) (x : V) (H1 : Hp) (Q : VK) : Prop := tyV K T x H1 ∧ t σ H1 fun xs H2 => r x xs H2 Q
def tBMQ (K : PySem.W.Frag) (T : String) (r : V → List V → Hp → VK → Prop) (to : TE) (t : TA) : TE := fun σ H Q => to σ H fun x H1 => BmG K T r t σ x H1 Q
def NewG (n : Nat) (N : Addr → Prop) (H : Hp) : Prop := n ≤ sizeLine ∧ ∀ p, H p = none → N p
def tTupQ (t : TA) : TE := fun σ H Q => t σ H fun xs H1 => NewG xs.length (fun p => Q (.ref p) (upd H1 p (.tup xs))) H1
def tLstQ (t : TA) : TE := fun σ H Q => t σ H fun xs H1 => NewG xs.length (fun p => Q (.ref p) (upd H1 p (.lst xs))) H1
def rIsNq : R2 := fun x y H Q => y = .non ∧ Q (.bl (decide (x = .non))) H
def rNotNq : R2 := fun x y H Q => y = .non ∧ Q (.bl (!decide (x = .non))) H
def ChnG (r' : R2) (tc : TE) (σ : Stt) (Q : VK) (y z : V) (H3 : Hp) : Prop := ∃ k, z = .bl k ∧ (if k = true then tc σ H3 fun w' H4 => r' y w' H4 Q else Q (.bl false) H3)
def tChainQ (r r' : R2) (ta tb tc : TE) : TE := fun σ H Q => ta σ H fun x H1 => tb σ H1 fun y H2 => r x y H2 fun z H3 => ChnG r' tc σ Q y z H3
def AndG (tb : TE) (σ : Stt) (Q : VK) (x : V) (H1 : Hp) : Prop := ∃ c, x = .bl c ∧ if c = true then tb σ H1 Q else Q (.bl false) H1
def tAndVQ (ta tb : TE) : TE := fun σ H Q => ta σ H fun x H1 => AndG tb σ Q x H1
def OrG (tb : TE) (σ : Stt) (Q : VK) (x : V) (H1 : Hp) : Prop := ∃ c, x = .bl c ∧ if c = true then Q (.bl true) H1 else tb σ H1 Q
def tOrVQ (ta tb : TE) : TE := fun σ H Q => ta σ H fun x H1 => OrG tb σ Q x H1
def NotG (Q : VK) (x : V) (H1 : Hp) : Prop := ∃ c, x = .bl c ∧ Q (.bl (!c)) H1
def tNotVQ (ta : TE) : TE := fun σ H Q => ta σ H fun x H1 => NotG Q x H1
def DGetG (a : V) (y : V) (H : Hp) (Q : VK) : Prop := ∃ d v, a = .ref d ∧ DGet H d y (some v) ∧ Q v H
def tDGetQ (td ty : TE) : TE := fun σ H Q => td σ H fun x H1 => ty σ H1 fun y H2 => DGetG x y H2 Q
def Rng1G (vs : List V) (H1 : Hp) (R : It → Hp → Prop) : Prop := ∃ j : Int, vs = [.int j] ∧ -(2 ^ 62) ≤ j ∧ j < 2 ^ 62 ∧ R (Itr 0 j.toNat) H1
def Rng2G (vs : List V) (H1 : Hp) (R : It → Hp → Prop) : Prop := ∃ i j : Int, vs = [.int i, .int j] ∧ (-(2 ^ 62) ≤ i ∧ i < 2 ^ 62 ∧ -(2 ^ 62) ≤ j ∧ j < 2 ^ 62) ∧ R (Itr i (j - i).toNat) H1
def iRng1Q (ta : TA) : TI := fun σ H R => ta σ H fun vs H1 => Rng1G vs H1 R
def iRng2Q (ta : TA) : TI := fun σ H R => ta σ H fun vs H1 => Rng2G vs H1 R
def ItLG (K : PySem.W.Frag) (x : V) (H1 : Hp) (R : It → Hp → Prop) : Prop := ∃ a, x = .ref a ∧ (∃ xs, SqL K H1 a xs) ∧ R (Itl K a) H1
def iListQ (K : PySem.W.Frag) (tl : TE) : TI := fun σ H R => tl σ H fun x H1 => ItLG K x H1 R
/-- a comprehension's loop, a for's loop -/
def LcG (g : TG) (tt : TT) (te : TE) (vs : List Nat) (σ : Stt) (Q : VK) (J : It) (H1 : Hp) : Prop := ∀ D, H1 D = none → ∃ W : Nat → Nat → Hp → Prop, (∃ m, W 0 m (upd H1 D (.lst []))) ∧ ∀ i m H, W i m H →
  (J.stop i H ∧ Q (.ref D) H) ∨ (J.go i H ∧ ∃ N : Hp → Prop, (∀ H', N H' → ∃ m', m' < m ∧ W (i + 1) m' H') ∧ ∀ x H', J.yld i H x H' → g x (wipe σ vs) H' fun σ2 H2 => wipe σ2 vs = wipe σ vs ∧ tt σ2 H2 fun b H3 => if b = true then te σ2 H3 fun y H4 => ∃ acc, H4 D = some (.lst acc) ∧ acc.length < sizeLine ∧ N (upd H4 D (.lst (acc ++ [y]))) else N H3)
def tLcQ (wi : TI) (g : TG) (tt : TT) (te : TE) (vs : List Nat) : TE := fun σ H Q => wi σ H fun J H1 => LcG g tt te vs σ Q J H1
def ForG (g : TG) (tb : TS) (D : Ends) (σ : Stt) (J : It) (H1 : Hp) : Prop := ∃ W : Nat → Nat → Stt → Hp → Prop, (∃ m, W 0 m σ H1) ∧ ∀ i m σ H, W i m σ H →
  (J.stop i H ∧ D.nx σ H) ∨ (J.go i H ∧ ∃ N : Stt → Hp → Prop, (∀ σ' H', N σ' H' → ∃ m', m' < m ∧ W (i + 1) m' σ' H') ∧ ∀ x H', J.yld i H x H' → g x σ H' fun σ2 H2 => tb { D with nx := N, ct := N, bk := D.nx } σ2 H2)
def tForQ (wi : TI) (g : TG) (tb : TS) : TS := fun D σ H => wi σ H fun J H1 => ForG g tb D σ J H1


/-! ### rules -/
section
variable {X : Cx} {o e value a b c : Expr} {es rest : List Expr} {f m x : Str} {p pos pos' apos : Pos} {ta tb tc tv te : TE} {t : TA} {tA : TT} {j : Nat}
theorem e_call (hr : Room j X.A) (hg : Gl X x) (ha : PA X (e :: es) t)
    (hdb : (x == ("__debug__" : Str)) = false := by decide) (he : starEach (e :: es) X.env = (false, eval e X.env) :: starEach es X.env := by rfl) (hpl : (backTo pos (starEach es X.env)).any (·.1) = false := by rfl) :
    PE X (.Call (.Name x p) (e :: es) [] pos) (tCallQ (enOf X) j x t) := by
  refine ⟨fun pins s σ H Q I h => ?_⟩
  obtain ⟨k, sp, dvs, c, hk, h⟩ := h
  obtain ⟨f, fd, ps, ds, F, hm, kp, b, d⟩ := c.ex
  exact (pe_call F (hr.mono hk) hg hm kp b d pass0 ha hdb he hpl).run pins s σ H Q I h
theorem e_make (hr : Room j X.A) (hg : Gl X x) (ha : PA X (e :: es) t)
    (hdb : (x == ("__debug__" : Str)) = false := by decide) (he : starEach (e :: es) X.env = (false, eval e X.env) :: starEach es X.env := by rfl) (hpl : (backTo pos (starEach es X.env)).any (·.1) = false := by rfl) :
    PE X (.Call (.Name x p) (e :: es) [] pos) (tMakeQ (enOf X) j x t) := by
  refine ⟨fun pins s σ H Q I h => ?_⟩
  obtain ⟨k, C, sp, dvs, c, hk, h⟩ := h
  obtain ⟨f, fd, ps, ds, M, F, hm, b, d⟩ := c.ex
  exact (pe_make M F (hr.mono hk) hg hm b d pass0 ha hdb he hpl).run pins s σ H Q I h
theorem e_meth {pl : Sem Bool} (hr : Room j X.A) (he : PE X o ta) (ha : PA X (e :: es) t)
    (hst : starEach (e :: es) X.env = (false, eval e X.env) :: starEach es X.env := by rfl) (hpl : (backTo pos (starEach es X.env)).any (·.1) = false := by rfl)
    (ht : eval (.Call (.Attribute o m apos) (e :: es) [] pos) X.env = (do
      let ov ← eval o X.env
      standAt apos.atName
      let (f, first) ← holding [ov] (getMethod ov m pl)
      callWith pos f first (backTo pos (starEach (e :: es) X.env)) (backToKw pos (keywordEach [] X.env))) := by rfl) :
    PE X (.Call (.Attribute o m apos) (e :: es) [] pos) (tMethQ (enOf X) j m ta t) := by
  refine ⟨fun pins s σ H Q I h => ?_⟩
  refine PySem.W.methodCall_KW (pl := pl) (thn (he.run pins s σ H _ I h) fun u s1 ⟨x, H1, I1, rx, a, C, dx, fs, k, sp, dvs, ex, ea, l, c, hk, q⟩ => ?_) ht
  obtain ⟨f, fd, ps, ds, cl, hm, F, hb, hd⟩ := c.ex
  subst ex
  obtain rfl : u = Value.ref a := rx
  refine getmeth_ok I1 ea cl hm l ?_
  refine PySem.W.callWith_K (first := [.ref a]) (h₀ := X.base) I.ok.mod.kin hm.kp (thn (ha.run pos pins s1 σ H1 _ I1 q) fun us s2 ⟨vs, H2, I2, r, q2⟩ => ⟨I2.kIn, ?_⟩) hst hpl
  exact run_fn (us := .ref a :: us) (vs := .ref a :: vs) F (hr.mono hk) hb hd pass0 I2 (.cons rfl r) q2
theorem e_meth0 {pl : Sem Bool} (hr : Room j X.A) (he : PE X o ta)
    (ht : eval (.Call (.Attribute o m apos) [] [] pos) X.env = (do
      let ov ← eval o X.env
      standAt apos.atName
      let (f, first) ← holding [ov] (getMethod ov m pl)
      callWith pos f first (backTo pos (starEach [] X.env)) (backToKw pos (keywordEach [] X.env))) := by rfl) :
    PE X (.Call (.Attribute o m apos) [] [] pos) (tMethQ (enOf X) j m ta tNil) := by
  refine ⟨fun pins s σ H Q I h => ?_⟩
  refine PySem.W.methodCall_KW (pl := pl) (thn (he.run pins s σ H _ I h) fun u s1 ⟨x, H1, I1, rx, a, C, dx, fs, k, sp, dvs, ex, ea, l, c, hk, q⟩ => ?_) ht
  obtain ⟨f, fd, ps, ds, cl, hm, F, hb, hd⟩ := c.ex
  subst ex
  obtain rfl : u = Value.ref a := rx
  refine getmeth_ok I1 ea cl hm l ?_
  refine PySem.W.callWith_K0 (first := [.ref a]) I1.kIn hm.kp ?_
  exact run_fn (us := [.ref a]) (vs := [.ref a]) F (hr.mono hk) hb hd pass0 I1 (.cons rfl .nil) q
theorem e_fld (he : PE X e ta) (hb : attributeBase e f X.env (eval e X.env) = eval e X.env := by rfl) : PE X (.Attribute e f pos) (tFldQ X.K ta f) := pe_fld he hb
theorem s_fld (ha : PE X o ta) (hv : PE X value tv) (hs : swapsWith value (some (.Attribute o f pos')) pos.line X.env = pure false := by rfl) : PS X (.Assign [.Attribute o f pos'] value pos) (sFldQ X.K ta tv f) := ps_fld ha hv hs
theorem e_cmp {op : CmpOp} {r : R2} (ho : OpR X (compareOp op) r) (ha : PE X a ta) (hb : PE X b tb) (hm : behindInMarks op b = false) : PE X (.Compare a [op] [b] pos) (tOp r ta tb) := pe_cmpR ho ha hb hm
theorem b_cmp {op : CmpOp} {r : R2} (ho : OpR X (compareOp op) r) (ha : PE X a ta) (hb : PE X b tb) (hm : behindInMarks op b = false) : PT X (.Compare a [op] [b] pos) (tTestQ (tOp r ta tb)) := pt_cmpR ho ha hb hm
theorem e_chain {op op' : CmpOp} {r r' : R2} (ho : OpR X (compareOp op) r) (ho' : OpR X (compareOp op') r') (ha : PE X a ta) (hb : PE X b tb) (hc : PE X c tc)
    (hm : lastMarks [op, op'] [b, c] = false := by with_unfolding_all rfl) : PE X (.Compare a [op, op'] [b, c] pos) (tChainQ r r' ta tb tc) := pe_chain ho ho' ha hb hc hm
theorem b_chain {op op' : CmpOp} {r r' : R2} (ho : OpR X (compareOp op) r) (ho' : OpR X (compareOp op') r') (ha : PE X a ta) (hb : PE X b tb) (hc : PE X c tc)
    (hm : lastMarks [op, op'] [b, c] = false := by with_unfolding_all rfl) : PT X (.Compare a [op, op'] [b, c] pos) (tTestQ (tChainQ r r' ta tb tc)) := pt_chain ho ho' ha hb hc hm
theorem b_val (h : PE X e te) (he : ∀ whole, isTrue e X.env whole = (do let v ← whole; standAt e.pos; holding [v] (truthy v)) := by intro _; rfl) : PT X e (tTestQ te) := pt_val h he
theorem b_and1 (ha : PT X a tA) : PW X (.BoolOp .And [a] pos) tA := pw_and1 ha
theorem e_and (ha : PE X a ta) (hb : PE X (.BoolOp .And (b :: rest) pos) tb) : PE X (.BoolOp .And (a :: b :: rest) pos) (tAndVQ ta tb) := pe_and ha hb
theorem e_or (ha : PE X a ta) (hb : PE X (.BoolOp .Or (b :: rest) pos) tb) : PE X (.BoolOp .Or (a :: b :: rest) pos) (tOrVQ ta tb) := pe_or ha hb
theorem e_not (ha : PE X a ta) : PE X (.UnaryOp .Not a pos) (tNotVQ ta) := pe_not ha
theorem c_len : CallR X (.builtin "len") (rLen X.K) := call_len_seq
theorem c_list : CallR X (.type "list") (rListOf X.K) := call_list_of
theorem c_isN : OpR X (compareOp .Is) rIsNq := op_isN
theorem c_notN : OpR X (compareOp .IsNot) rNotNq := op_notN
theorem e_tup {x1} (h : PA X es t) : PE X (.Tuple es x1 pos) (tTupQ t) := pe_tup h
theorem e_lst (h : PA X es t) : PE X (.List es pos) (tLstQ t) := pe_lst h
theorem e_bm {T name id : String} {to : TE} {cpos : Pos} {r : V → List V → Hp → VK → Prop} (pa : PlainAttrs T) (slot : Slot T name id) (hty : typeOf (.builtin id) = pure (.type "method_descriptor")) (hm : MtR X id r) (ho : PE X o to) (ha : PA X (e :: es) t)
    (hbase : attributeBase o name X.env (eval o X.env) = eval o X.env := by rfl)
    (hfew : ((backTo cpos (starEach (e :: es) X.env)).all (fun x => !x.1) && (backToKw cpos (keywordEach [] X.env)).all (fun x => x.1.isSome)
      && decide ((e :: es).length + ([] : List Keyword).length + (if ([] : List Keyword).isEmpty then 0 else 1) < 30)) = true := by rfl)
    (hline : (apos.endLine == cpos.line) = true := by rfl) (hs : starEach (e :: es) X.env = (false, eval e X.env) :: starEach es X.env := by rfl) (hplain : (backTo cpos (starEach es X.env)).any (·.1) = false := by rfl) :
    PE X (.Call (.Attribute o name apos) (e :: es) [] cpos) (tBMQ X.K T r to t) := pe_bm pa slot hty hm ho ha hbase hfew hline hs hplain
theorem e_dget (hu : X.A.units + 1 < cLine) (ho : PE X o ta) (hi : PE X a tb) (hs : NoSl a := by intro _ _; rfl) : PE X (.Subscript o a pos) (tDGetQ ta tb) := pe_dget hu ho hi hs
theorem i_rng1 {tg : Expr} (hg : Gl X "range") (hm : X.mg "range" = none) (ha : PA X [a] t) (hs : starEach [a] X.env = [(false, eval a X.env)] := by rfl) : PI X tg (.Call (.Name "range" p) [a] [] pos) (iRng1Q t) := pi_range1 hg hm ha hs
theorem i_rng2 {tg : Expr} (hg : Gl X "range") (hm : X.mg "range" = none) (ha : PA X [a, b] t) (hs : starEach [a, b] X.env = [(false, eval a X.env), (false, eval b X.env)] := by rfl) (hs2 : starEach [b] X.env = [(false, eval b X.env)] := by rfl) : PI X tg (.Call (.Name "range" p) [a, b] [] pos) (iRng2Q t) := pi_range2 hg hm ha hs hs2
theorem i_list {tg : Expr} (hl : PE X e te) : PI X tg e (iListQ X.K te) := pi_list hl
theorem s_for {tg iter : Expr} {body : List Stmt} {wi : TI} {g : TG} {tb : TS} (hp : PassesOwn (model X.prog X.w) X.A X.env X.xe) (hc : X.calm = true) (hi : PI X tg iter wi) (hg : PG X tg g) (hb : PSs X body tb)
    (hs : ∀ x, foldedSetIterable iter X.env x = pure x := by intro _; rfl) : PS X (.For tg iter body [] pos) (tForQ wi g tb) := ps_for hp hc hi hg hb hs
theorem e_lc {elt tg iter : Expr} {ifs : List Expr} {scope : Scope} {own : List (Str × Nat)} {wi : TI} {g : TG} {tt : TT} {te : TE} (hc : X.calm = true) (hN : X.N.Nodup) (hi : PI X tg iter wi) (ok : BlkOk X.N X.env.scope scope own)
    (hg : ∀ (s : Shared) (H : Hp) (C : Addr) (cl : List (Str × Addr)) (fp : List Addr), PG (X.blk s H scope (compEnvC scope cl C X.env) fp) tg g) (ht : ∀ (s : Shared) (H : Hp) (C : Addr) (cl : List (Str × Addr)) (fp : List Addr), PTs (X.blk s H scope (compEnvC scope cl C X.env) fp) ifs tt)
    (he : ∀ (s : Shared) (H : Hp) (C : Addr) (cl : List (Str × Addr)) (fp : List Addr), PE (X.blk s H scope (compEnvC scope cl C X.env) fp) elt te) (hs : ∀ x, foldedSetIterable iter X.env x = pure x := by intro _; rfl) :
    PE X (.ListComp elt [⟨tg, iter, ifs, 0⟩] scope pos) (tLcQ wi g tt te (own.map (·.2))) := pe_lc hc hN hi ok hg ht he hs
theorem s_setLc {i : Nat} {y : Str} {py : Pos} {elt tg iter : Expr} {ifs : List Expr} {scope : Scope} {own : List (Str × Nat)} {spos : Pos} {wi : TI} {g : TG} {tt : TT} {te : TE} (hc : X.calm = true) (hN : X.N.Nodup) (hy : X.N[i]? = some y) (hyl : X.env.scope.names.lookup y = some .local)
    (hsw : swapsWith (.ListComp elt [⟨tg, iter, ifs, 0⟩] scope pos) (some (.Name y py)) spos.line X.env = pure true) (hi : PI X tg iter wi) (ok : BlkOk X.N X.env.scope scope own)
    (hg : ∀ (s : Shared) (H : Hp) (C : Addr) (cl : List (Str × Addr)) (fp : List Addr), PG (X.blk s H scope (compEnvC scope cl C X.env) fp) tg g) (ht : ∀ (s : Shared) (H : Hp) (C : Addr) (cl : List (Str × Addr)) (fp : List Addr), PTs (X.blk s H scope (compEnvC scope cl C X.env) fp) ifs tt)
    (he : ∀ (s : Shared) (H : Hp) (C : Addr) (cl : List (Str × Addr)) (fp : List Addr), PE (X.blk s H scope (compEnvC scope cl C X.env) fp) elt te) (hs : ∀ x, foldedSetIterable iter X.env x = pure x := by intro _; rfl) :
    PS X (.Assign [.Name y py] (.ListComp elt [⟨tg, iter, ifs, 0⟩] scope pos) spos) (tAsg (tLcQ wi g tt te (own.map (·.2))) (gName i)) := ps_setLc hc hN hy hyl hsw hi ok hg ht he hs
end

/-! ### a def by its body -/
section
variable {G : En} {x qual : Str} {st : Stmt} {dvs : List V} {f C : Addr} {fd : FuncData} {N ps : List Str} {k : Nat} {sp : Sp} {t : TS}
abbrev FnP (K : PySem.W.Frag) (x qual : Str) (st : Stmt) (dvs : List V) (f : Addr) (fd : FuncData) : Prop := FunD K x qual (defArgs st) (defBody st) (defScope st) dvs [] f fd
abbrev cx0 (G : En) (N : List Str) (qual : Str) (st : Stmt) (f : Addr) (cdv : Value) (A : Around) (outer : List Env) (s : Shared) (H : Hp) (E : XK) : Cx :=
  (cxOf CX0 G.prog G.w G.K G.mg G.base N qual (defScope st) f cdv A outer s H E).nox
abbrev rm0 (k : Nat) (qual : Str) (st : Stmt) (f : Addr) (cdv : Value) (A : Around) (s : Shared) : Prop := Room k (A.deeper (envOfC qual (defScope st) s.heap.objs.size f cdv))
theorem fn_ok0 (F : FnP G.K x qual st dvs f fd) (S : FnScope N ps (defScope st)) (len : ∀ vs H Q E, sp vs H Q E → vs.length = ps.length)
    (dv : ∀ (cdv : Value) (A : Around) (outer : List Env) (s : Shared) (H : Hp) (E : XK), rm0 k qual st f cdv A s → PSs (cx0 G N qual st f cdv A outer s H E) (defBody st) t)
    (pure : ∀ vs H Q E, sp vs H Q E → t { nx := fun _ H' => Q .non H', rt := Q } (start N vs) H) : FnG G CX0 (k + 1) f fd ps sp :=
  F.ok S len fun cdv A outer s H vs Q E hr h => ⟨t, (dv cdv A outer s H E hr).nox, pure vs H Q E h⟩
end

/-! ### the steps -/
theorem sl1000 {n : Nat} (h : n ≤ 100000) : n ≤ sizeLine := Nat.le_trans h (by decide)
section
variable {σ σ' : Stt} {H : Hp} {Q : VK} {K : PySem.W.Frag} {G : En} {ta tb tc te tv : TE} {t u : TT} {tl : TA} {r r' : R2} {x y v z : V} {D : Ends} {tu tw : TS} {g : TG} {gs : TGs} {QT : Bool → Hp → Prop} {QA : List V → Hp → Prop} {N : Stt → Hp → Prop} {a l d : Addr} {xs ys vs : List V} {f m : Str} {j : Nat}
theorem x_var {i : Nat} (h : σ[i]? = some (some v)) (k : Q v H) : tVar i σ H Q := ⟨v, h, k⟩
theorem x_c (k : Q v H) : tC v σ H Q := k
theorem x_op (k : ta σ H fun x H1 => tb σ H1 fun y H2 => r x y H2 Q) : tOp r ta tb σ H Q := k
theorem x_un {r : V → Hp → VK → Prop} (k : ta σ H fun x H1 => r x H1 Q) : tUn r ta σ H Q := k
theorem x_I0 {g : Int → Int → V} {i j : Int} (k : Q (g i j) H) : rI0 g (.int i) (.int j) H Q := ⟨i, j, rfl, rfl, k⟩
theorem x_I {C : Int → Int → Prop} {g : Int → Int → V} {i j : Int} (c : C i j) (k : Q (g i j) H) : rI C g (.int i) (.int j) H Q := ⟨i, j, rfl, rfl, c, k⟩
theorem x_mod {i j : Int} (c : 0 < j) (k : Q (.int (i % j)) H) : rI (fun _ j => 0 < j) (fun i j => .int (i % j)) (.int i) (.int j) H Q := x_I c k
theorem x_div {i j : Int} (c : 0 < j ∧ j < 1073741824) (k : Q (.int (i / j)) H) : rI CDiv (fun i j => .int (i / j)) (.int i) (.int j) H Q := x_I c k
theorem x_mulL {i j : Int} (c : -(2 ^ 64) < i ∧ i < 2 ^ 64) (k : Q (.int (i * j)) H) : rI CMul (fun i j => .int (i * j)) (.int i) (.int j) H Q := x_I (.inl c) k
theorem x_mulR {i j : Int} (c : -(2 ^ 64) < j ∧ j < 2 ^ 64) (k : Q (.int (i * j)) H) : rI CMul (fun i j => .int (i * j)) (.int i) (.int j) H Q := x_I (.inr c) k
theorem x_eqI {i j : Int} (k : Q (.bl (decide (i = j))) H) : rEq (.int i) (.int j) H Q := ⟨rfl, by rw [show decide (V.int i = V.int j) = decide (i = j) by simp]; exact k⟩
theorem x_neI {i j : Int} (k : Q (.bl (!decide (i = j))) H) : rNe (.int i) (.int j) H Q := ⟨rfl, by rw [show decide (V.int i = V.int j) = decide (i = j) by simp]; exact k⟩
theorem x_eqS {i j : Str} (k : Q (.bl (decide (i = j))) H) : rEq (.str i) (.str j) H Q := ⟨rfl, by rw [show decide (V.str i = V.str j) = decide (i = j) by simp]; exact k⟩
theorem x_neS {i j : Str} (k : Q (.bl (!decide (i = j))) H) : rNe (.str i) (.str j) H Q := ⟨rfl, by rw [show decide (V.str i = V.str j) = decide (i = j) by simp]; exact k⟩
theorem x_eqB {i j : Bool} (k : Q (.bl (decide (i = j))) H) : rEq (.bl i) (.bl j) H Q := ⟨rfl, by rw [show decide (V.bl i = V.bl j) = decide (i = j) by simp]; exact k⟩
theorem x_eqV (h : scal x y = true) (k : Q (.bl (decide (x = y))) H) : rEq x y H Q := ⟨h, k⟩
theorem x_neV (h : scal x y = true) (k : Q (.bl (!decide (x = y))) H) : rNe x y H Q := ⟨h, k⟩
theorem x_isNn (k : Q (.bl true) H) : rIsNq .non .non H Q := ⟨rfl, k⟩
theorem x_isNi {i : Int} (k : Q (.bl false) H) : rIsNq (.int i) .non H Q := ⟨rfl, k⟩
theorem x_isNr (k : Q (.bl false) H) : rIsNq (.ref a) .non H Q := ⟨rfl, k⟩
theorem x_isN (k : Q (.bl (decide (x = .non))) H) : rIsNq x .non H Q := ⟨rfl, k⟩
theorem x_notNn (k : Q (.bl false) H) : rNotNq .non .non H Q := ⟨rfl, k⟩
theorem x_notNi {i : Int} (k : Q (.bl true) H) : rNotNq (.int i) .non H Q := ⟨rfl, k⟩
theorem x_notNr (k : Q (.bl true) H) : rNotNq (.ref a) .non H Q := ⟨rfl, k⟩
theorem x_notN (k : Q (.bl (!decide (x = .non))) H) : rNotNq x .non H Q := ⟨rfl, k⟩
theorem x_cons (k : te σ H fun x H1 => tl σ H1 fun xs H2 => QA (x :: xs) H2) : tCons te tl σ H QA := k
theorem x_nil (k : QA [] H) : tNil σ H QA := k
theorem x_call {j k : Nat} {sp : Sp} {dvs : List V} (c : CalG G k f sp dvs) (hk : k ≤ j) (q : tl σ H fun vs H1 => sp (vs ++ dvs) H1 Q E0) : tCallQ G j f tl σ H Q := ⟨k, sp, dvs, c, hk, q⟩
theorem x_make {j k : Nat} {C : Addr} {sp : Sp} {dvs : List V} (c : MakG G k f C sp dvs) (hk : k + 1 ≤ j) (q : tl σ H fun vs H1 => MakeG C sp dvs vs H1 Q) : tMakeQ G j f tl σ H Q := ⟨k, C, sp, dvs, c, hk, q⟩
theorem x_fld (k : ta σ H fun x H1 => FldG K f x H1 Q) : tFldQ K ta f σ H Q := k
theorem x_fldg {C dx : Addr} {fs : List (Str × V)} (h : H a = some (.ins C dx fs)) (c : Cls K C) (n : NoAttr K C f) (l : fs.lookup f = some v) (k : Q v H) : FldG K f (.ref a) H Q := ⟨a, C, dx, fs, v, rfl, h, c, n, l, k⟩
theorem x_sfld (k : tv σ H fun y H1 => ta σ H1 fun x H2 => PutG K f x y H2 (D.nx σ)) : sFldQ K ta tv f D σ H := k
theorem x_putg {C dx : Addr} {fs fs' : List (Str × V)} {N : Hp → Prop} (h : H a = some (.ins C dx fs)) (c : Cls K C) (n : NoAttr K C f) (l : fs.length < 1000) (e : putF f y fs = fs') (k : N (upd H a (.ins C dx fs'))) : PutG K f (.ref a) y H N := ⟨a, C, dx, fs, rfl, h, c, n, l, by rw [e]; exact k⟩
theorem x_meth (k : ta σ H fun x H1 => MethG G j m tl σ x H1 Q) : tMethQ G j m ta tl σ H Q := k
theorem x_methg {C dx : Addr} {fs : List (Str × V)} {k : Nat} {sp : Sp} {dvs : List V} (h : H a = some (.ins C dx fs)) (c : MetG G k C m sp dvs) (hk : k ≤ j) (l : fs.lookup m = none) (q : tl σ H fun vs H2 => sp (.ref a :: (vs ++ dvs)) H2 Q E0) : MethG G j m tl σ (.ref a) H Q :=
  ⟨a, C, dx, fs, k, sp, dvs, rfl, h, l, c, hk, q⟩
theorem x_test (k : te σ H fun x H' => IsB x H' QT) : tTestQ te σ H QT := k
theorem x_isB {b : Bool} (k : QT b H) : IsB (.bl b) H QT := ⟨b, rfl, k⟩
theorem x_cb {r : List V → Hp → VK → Prop} (k : tl σ H fun vs H1 => r vs H1 Q) : tCB r tl σ H Q := k
theorem x_lenL (h : H a = some (.lst xs)) (k : Q (.int (xs.length : Int)) H) : rLen K [.ref a] H Q := ⟨a, xs, rfl, .inl (SqL.of h), k⟩
theorem x_lenT (h : H a = some (.tup xs)) (k : Q (.int (xs.length : Int)) H) : rLen K [.ref a] H Q := ⟨a, xs, rfl, .inr (SqT.of h), k⟩
theorem x_listL (h : SqL K H a xs) (k : ∀ l, H l = none → Q (.ref l) (upd H l (.lst xs))) : rListOf K [.ref a] H Q := ⟨a, xs, rfl, .inl h, k⟩
theorem x_bm {T : String} {r : V → List V → Hp → VK → Prop} (k : ta σ H fun x H1 => BmG K T r tl σ x H1 Q) : tBMQ K T r ta tl σ H Q := k
theorem x_bmL {r : V → List V → Hp → VK → Prop} (h : H a = some (.lst xs)) (k : tl σ H fun ys H2 => r (.ref a) ys H2 Q) : BmG K "list" r tl σ (.ref a) H Q := ⟨.inl ⟨rfl, xs, SqL.of h⟩, k⟩
theorem x_app (h : H a = some (.lst xs)) (hz : xs.length < 100000) (k : Q .non (upd H a (.lst (xs ++ [y])))) : rAppend (.ref a) [y] H Q := ⟨a, xs, y, rfl, rfl, h, Nat.lt_of_lt_of_le hz (by decide), k⟩
theorem x_pop0 (h : H a = some (.lst (y :: xs))) (k : Q y (upd H a (.lst xs))) : rPopAt (.ref a) [.int 0] H Q :=
  ⟨a, y :: xs, 0, 0, y, rfl, rfl, h, by decide, by decide, by simp [seqIndex?], rfl, k⟩
theorem x_new {n : Nat} {NN : Addr → Prop} (hn : n ≤ 100000) (k : ∀ p, H p = none → NN p) : NewG n NN H := ⟨sl1000 hn, k⟩
theorem x_tup (k : tl σ H fun xs H1 => NewG xs.length (fun p => Q (.ref p) (upd H1 p (.tup xs))) H1) : tTupQ tl σ H Q := k
theorem x_lst (k : tl σ H fun xs H1 => NewG xs.length (fun p => Q (.ref p) (upd H1 p (.lst xs))) H1) : tLstQ tl σ H Q := k
theorem x_chain (k : ta σ H fun x H1 => tb σ H1 fun y H2 => r x y H2 fun z H3 => ChnG r' tc σ Q y z H3) : tChainQ r r' ta tb tc σ H Q := k
theorem x_chn {b : Bool} (k : if b = true then tc σ H fun w' H4 => r' y w' H4 Q else Q (.bl false) H) : ChnG r' tc σ Q y (.bl b) H := ⟨b, rfl, k⟩
theorem x_andV (k : ta σ H fun x H1 => AndG tb σ Q x H1) : tAndVQ ta tb σ H Q := k
theorem x_andg {b : Bool} (k : if b = true then tb σ H Q else Q (.bl false) H) : AndG tb σ Q (.bl b) H := ⟨b, rfl, k⟩
theorem x_orV (k : ta σ H fun x H1 => OrG tb σ Q x H1) : tOrVQ ta tb σ H Q := k
theorem x_org {b : Bool} (k : if b = true then Q (.bl true) H else tb σ H Q) : OrG tb σ Q (.bl b) H := ⟨b, rfl, k⟩
theorem x_notV (k : ta σ H fun x H1 => NotG Q x H1) : tNotVQ ta σ H Q := k
theorem x_notg {b : Bool} (k : Q (.bl (!b)) H) : NotG Q (.bl b) H := ⟨b, rfl, k⟩
theorem x_and (k : t σ H fun c H1 => if c = true then u σ H1 QT else QT false H1) : tAnd t u σ H QT := k
theorem x_or (k : t σ H fun c H1 => if c = true then QT true H1 else u σ H1 QT) : tOr t u σ H QT := k
theorem x_not (k : t σ H fun c H1 => QT (!c) H1) : tNot t σ H QT := k
theorem x_ifE (k : t σ H fun c H1 => if c = true then ta σ H1 Q else tb σ H1 Q) : tIf t ta tb σ H Q := k
theorem x_dget (k : ta σ H fun x H1 => tb σ H1 fun y H2 => DGetG x y H2 Q) : tDGetQ ta tb σ H Q := k
theorem x_ixL {i : Nat} {n : Int} (h : H a = some (.lst xs)) (e : n = (i : Int)) (hv : xs[i]? = some v) (k : Q v H) : rIxL K (.ref a) (.int n) H Q := ⟨a, xs, n, v, rfl, rfl, SqL.of h, by rw [e]; exact atI_nat hv, k⟩
theorem x_ixT {i : Nat} {n : Int} (h : H a = some (.tup xs)) (e : n = (i : Int)) (hv : xs[i]? = some v) (k : Q v H) : rIxT K (.ref a) (.int n) H Q := ⟨a, xs, n, v, rfl, rfl, SqT.of h, by rw [e]; exact atI_nat hv, k⟩
theorem x_rep {n : Int} (h : H a = some (.lst xs)) (h0 : 0 ≤ n ∧ n ≤ 1000) (hx : xs.length ≤ 10) (k : ∀ p, H p = none → Q (.ref p) (upd H p (.lst (List.replicate n.toNat xs).flatten))) : rRep (.ref a) (.int n) H Q :=
  ⟨a, n, xs, rfl, rfl, h, by omega, by omega, Nat.le_trans (Nat.mul_le_mul hx (show n.toNat ≤ 1000 by omega)) (by decide), k⟩
-- statements
theorem x_seq (k : tu { D with nx := tw D } σ H) : tSeq tu tw D σ H := k
theorem x_asg (k : te σ H fun x H1 => g x σ H1 D.nx) : tAsg te g D σ H := k
theorem x_gname {i : Nat} (k : N (σ.set i (some v)) H) : gName i v σ H N := k
theorem x_gtup {n : Nat} (h : H a = some (.tup xs)) (hn : xs.length = n) (k : gs xs σ H N) : gTup K n gs (.ref a) σ H N := ⟨a, xs, rfl, SqT.of h, hn, k⟩
theorem x_gcons (k : g v σ H fun σ' H' => gs xs σ' H' N) : gCons g gs (v :: xs) σ H N := ⟨v, xs, rfl, k⟩
theorem x_gnil (k : N σ H) : gNil [] σ H N := ⟨rfl, k⟩
theorem x_gsub {ts : TSet} (k : ta σ H fun o H1 => tb σ H1 fun i H2 => ts o i v H2 fun H3 => N σ H3) : gSub ta tb ts v σ H N := k
theorem x_setL {NN : Hp → Prop} {i : Nat} {n : Int} (h : H a = some (.lst xs)) (e : n = (i : Int)) (hi : i < xs.length) (k : NN (upd H a (.lst (xs.set i v)))) : rSetL (.ref a) (.int n) v H NN := by
  refine ⟨a, xs, n, i, rfl, rfl, h, ?_, k⟩
  subst e
  unfold ixN
  rw [if_pos (by omega), if_pos (by omega)]
  simp
theorem x_ifs (k : t σ H fun b H1 => if b = true then tu D σ H1 else tw D σ H1) : tIfS t tu tw D σ H := k
theorem x_ret (k : te σ H D.rt) : tRet te D σ H := k
theorem x_retN (k : D.rt .non H) : tRetN D σ H := k
theorem x_drop (k : te σ H fun _ H1 => D.nx σ H1) : tDrop te D σ H := k
theorem x_next (k : D.nx σ H) : tNext D σ H := k
theorem x_for {wi : TI} (k : wi σ H fun J H1 => ForG g tu D σ J H1) : tForQ wi g tu D σ H := k
theorem x_lc {wi : TI} {ws : List Nat} (k : wi σ H fun J H1 => LcG g t te ws σ Q J H1) : tLcQ wi g t te ws σ H Q := k
theorem x_rng1 {R : It → Hp → Prop} (k : tl σ H fun vs H1 => Rng1G vs H1 R) : iRng1Q tl σ H R := k
theorem x_rng2 {R : It → Hp → Prop} (k : tl σ H fun vs H1 => Rng2G vs H1 R) : iRng2Q tl σ H R := k
theorem x_rng1g {n : Int} {R : It → Hp → Prop} (h : 0 ≤ n ∧ n ≤ 1000000) (k : R (Itr 0 n.toNat) H) : Rng1G [.int n] H R := ⟨n, rfl, by omega, by omega, k⟩
theorem x_ilist {R : It → Hp → Prop} (k : te σ H fun x H1 => ItLG K x H1 R) : iListQ K te σ H R := k
theorem x_itl {R : It → Hp → Prop} (h : H a = some (.lst xs)) (k : R (Itl K a) H) : ItLG K (.ref a) H R := ⟨a, rfl, ⟨xs, SqL.of h⟩, k⟩
-- branches
theorem x_t {A B : Prop} (h : A) : if true = true then A else B := by rw [if_pos rfl]; exact h
theorem x_f {A B : Prop} (h : B) : if false = true then A else B := by rw [if_neg Bool.false_ne_true]; exact h
theorem x_nt {A B : Prop} (h : B) : if (!true) = true then A else B := x_f h
theorem x_nf {A B : Prop} (h : A) : if (!false) = true then A else B := x_t h
theorem x_nnt {A B : Prop} (h : A) : if (!(!true)) = true then A else B := x_t h
theorem x_nnf {A B : Prop} (h : B) : if (!(!false)) = true then A else B := x_f h
theorem x_dt {p A B : Prop} [Decidable p] (c : p) (h : A) : if decide p = true then A else B := by rw [if_pos (decide_eq_true c)]; exact h
theorem x_df {p A B : Prop} [Decidable p] (c : ¬ p) (h : B) : if decide p = true then A else B := by rw [if_neg (by simp [c])]; exact h
theorem x_ndt {p A B : Prop} [Decidable p] (c : p) (h : B) : if (!decide p) = true then A else B := by rw [if_neg (by simp [c])]; exact h
theorem x_ndf {p A B : Prop} [Decidable p] (c : ¬ p) (h : A) : if (!decide p) = true then A else B := by rw [if_pos (by simp [c])]; exact h
theorem x_d2 {p A B : Prop} [Decidable p] (h1 : p → A) (h2 : ¬ p → B) : if decide p = true then A else B := by
  by_cases c : p
  · exact x_dt c (h1 c)
  · exact x_df c (h2 c)
theorem x_nd2 {p A B : Prop} [Decidable p] (h1 : ¬ p → A) (h2 : p → B) : if (!decide p) = true then A else B := by
  by_cases c : p
  · exact x_ndt c (h2 c)
  · exact x_ndf c (h1 c)
theorem x_b2 {b : Bool} {A B : Prop} (h1 : b = true → A) (h2 : b = false → B) : if b = true then A else B := by
  cases b with
  | true => exact x_t (h1 rfl)
  | false => exact x_f (h2 rfl)
theorem x_nb2 {b : Bool} {A B : Prop} (h1 : b = false → A) (h2 : b = true → B) : if (!b) = true then A else B := by
  cases b with
  | true => exact x_nt (h2 rfl)
  | false => exact x_nf (h1 rfl)
end
/-! ### loops and comprehensions -/
section
variable {σ : Stt} {H H1 : Hp} {Q : VK} {K : PySem.W.Frag} {g : TG} {tt : TT} {te : TE} {ws : List Nat} {D : Ends} {tb : TS}
theorem for_rng {n : Nat} (Pv : Nat → Stt → Hp → Prop) (h0 : Pv 0 σ H1)
    (hs : ∀ i σ H, i < n → Pv i σ H → g (.int (i : Int)) σ H fun σ2 H2 => tb { D with nx := Pv (i + 1), ct := Pv (i + 1), bk := D.nx } σ2 H2) (hd : ∀ σ H, Pv n σ H → D.nx σ H) : ForG g tb D σ (Itr 0 n) H1 :=
  for_range (lo := 0) Pv h0 (fun i σ H hi p => by
    have := hs i σ H hi p
    rw [show ((0 : Int) + (i : Int)) = (i : Int) by omega]; exact this) hd
theorem for_lst {a : Addr} (xs : List V) (Pv : Nat → Stt → Hp → Prop) (h0 : Pv 0 σ H1) (hl : ∀ i σ H, i ≤ xs.length → Pv i σ H → H a = some (.lst xs))
    (hs : ∀ i x σ H, xs[i]? = some x → Pv i σ H → g x σ H fun σ2 H2 => tb { D with nx := Pv (i + 1), ct := Pv (i + 1), bk := D.nx } σ2 H2) (hd : ∀ σ H, Pv xs.length σ H → D.nx σ H) : ForG g tb D σ (Itl K a) H1 :=
  for_list (K := K) (a := a) (xs := xs) Pv h0 (fun i σ H hi p => SqL.of (hl i σ H hi p)) hs hd
/-- a comprehension over a range: an invariant -/
theorem lc_rng {n : Nat} (Pv : Addr → Nat → Hp → Prop) (h0 : ∀ Dd, H1 Dd = none → Pv Dd 0 (upd H1 Dd (.lst [])))
    (hs : ∀ Dd i H, H1 Dd = none → i < n → Pv Dd i H → g (.int (i : Int)) (wipe σ ws) H fun σ2 H2 => wipe σ2 ws = wipe σ ws ∧ tt σ2 H2 fun b H3 => if b = true then te σ2 H3 fun y H4 => ∃ acc, H4 Dd = some (.lst acc) ∧ acc.length < sizeLine ∧ Pv Dd (i + 1) (upd H4 Dd (.lst (acc ++ [y]))) else Pv Dd (i + 1) H3)
    (hd : ∀ Dd H, H1 Dd = none → Pv Dd n H → Q (.ref Dd) H) : LcG g tt te ws σ Q (Itr 0 n) H1 := fun Dd hD =>
  lc_range (lo := 0) (n := n) (Qd := fun H => Q (.ref Dd) H) (Pv Dd) (h0 Dd hD) (fun i H hi p => by
    have := hs Dd i H hD hi p
    rw [show ((0 : Int) + (i : Int)) = (i : Int) by omega]; exact this) fun H p => hd Dd H hD p
theorem lc_lst {a : Addr} (xs : List V) (Pv : Addr → Nat → Hp → Prop) (h0 : ∀ Dd, H1 Dd = none → Pv Dd 0 (upd H1 Dd (.lst []))) (hl : ∀ Dd i H, H1 Dd = none → i ≤ xs.length → Pv Dd i H → H a = some (.lst xs))
    (hs : ∀ Dd i x H, H1 Dd = none → xs[i]? = some x → Pv Dd i H → g x (wipe σ ws) H fun σ2 H2 => wipe σ2 ws = wipe σ ws ∧ tt σ2 H2 fun b H3 => if b = true then te σ2 H3 fun y H4 => ∃ acc, H4 Dd = some (.lst acc) ∧ acc.length < sizeLine ∧ Pv Dd (i + 1) (upd H4 Dd (.lst (acc ++ [y]))) else Pv Dd (i + 1) H3)
    (hd : ∀ Dd H, H1 Dd = none → Pv Dd xs.length H → Q (.ref Dd) H) : LcG g tt te ws σ Q (Itl K a) H1 := fun Dd hD =>
  lc_list (K := K) (a := a) (xs := xs) (Qd := fun H => Q (.ref Dd) H) (Pv Dd) (h0 Dd hD) (fun i H hi p => SqL.of (hl Dd i H hD hi p)) (fun i x H hi p => hs Dd i x H hD hi p) fun H p => hd Dd H hD p
/-- what a comprehension that only allocates has made so far -/
def Made (H1 : Hp) (Dd : Addr) (xs : List V) (H : Hp) : Prop := Fr F0 H1 H ∧ H Dd = some (.lst xs)
theorem filt_succ {α : Type} (b : Nat → Bool) (f : Nat → α) (i : Nat) : ((List.range (i + 1)).filter b).map f = ((List.range i).filter b).map f ++ (if b i = true then [f i] else []) := by
  rw [List.range_succ, List.filter_append, List.map_append]
  cases h : b i <;> simp [h]
theorem filt_len {α : Type} (b : Nat → Bool) (f : Nat → α) (i : Nat) : (((List.range i).filter b).map f).length ≤ i := by
  rw [List.length_map]
  exact Nat.le_trans (List.length_filter_le _ _) (by simp)
/-- a comprehension over a range, test and element only allocate -/
theorem lc_rngP {n : Nat} (bf : Nat → Bool) (vf : Nat → V) (hn : n ≤ 100000)
    (hs : ∀ i H (Kv : V → Hp → Prop) (Kn : Hp → Prop), i < n → Fr F0 H1 H → (bf i = true → ∀ H', Fr F0 H H' → Kv (vf i) H') → (bf i = false → ∀ H', Fr F0 H H' → Kn H') →
      g (.int (i : Int)) (wipe σ ws) H fun σ2 H2 => wipe σ2 ws = wipe σ ws ∧ tt σ2 H2 fun b H3 => if b = true then te σ2 H3 Kv else Kn H3)
    (hd : ∀ Dd H, H1 Dd = none → Fr F0 H1 H → H Dd = some (.lst (((List.range n).filter bf).map vf)) → Q (.ref Dd) H) : LcG g tt te ws σ Q (Itr 0 n) H1 := by
  refine lc_rng (fun Dd i H => Made H1 Dd (((List.range i).filter bf).map vf) H) (fun Dd hD => ⟨.new hD, upd_same⟩) (fun Dd i H hD hi p => ?_) (fun Dd H hD p => hd Dd H hD p.1 p.2)
  obtain ⟨p1, p2⟩ := p
  refine hs i H (fun y H4 => ∃ acc, H4 Dd = some (.lst acc) ∧ acc.length < sizeLine ∧ Made H1 Dd _ (upd H4 Dd (.lst (acc ++ [y])))) (fun H3 => Made H1 Dd _ H3) hi p1 (fun hb H' f => ?_) (fun hb H' f => ?_)
  · refine ⟨_, f.at0 p2, Nat.lt_of_le_of_lt (filt_len _ _ _) (Nat.lt_of_lt_of_le hi (sl1000 hn)), (p1.trans f).then_put_new hD, ?_⟩
    rw [filt_succ, if_pos hb]; exact upd_same
  · refine ⟨p1.trans f, ?_⟩
    rw [filt_succ, if_neg (by rw [hb]; exact Bool.false_ne_true), List.append_nil]; exact f.at0 p2
/-- over a list -/
theorem lc_lstP {a : Addr} (xs : List V) (bf : Nat → Bool) (vf : Nat → V) (hn : xs.length ≤ 100000) (ha : H1 a = some (.lst xs))
    (hs : ∀ i x H (Kv : V → Hp → Prop) (Kn : Hp → Prop), xs[i]? = some x → Fr F0 H1 H → (bf i = true → ∀ H', Fr F0 H H' → Kv (vf i) H') → (bf i = false → ∀ H', Fr F0 H H' → Kn H') →
      g x (wipe σ ws) H fun σ2 H2 => wipe σ2 ws = wipe σ ws ∧ tt σ2 H2 fun b H3 => if b = true then te σ2 H3 Kv else Kn H3)
    (hd : ∀ Dd H, H1 Dd = none → Fr F0 H1 H → H Dd = some (.lst (((List.range xs.length).filter bf).map vf)) → Q (.ref Dd) H) : LcG g tt te ws σ Q (Itl K a) H1 := by
  refine lc_lst xs (fun Dd i H => Made H1 Dd (((List.range i).filter bf).map vf) H) (fun Dd hD => ⟨.new hD, upd_same⟩) (fun Dd i H hD hi p => p.1.at0 ha) (fun Dd i x H hD hi p => ?_) (fun Dd H hD p => hd Dd H hD p.1 p.2)
  obtain ⟨p1, p2⟩ := p
  have hlt : i < xs.length := (List.getElem?_eq_some_iff.mp hi).1
  refine hs i x H (fun y H4 => ∃ acc, H4 Dd = some (.lst acc) ∧ acc.length < sizeLine ∧ Made H1 Dd _ (upd H4 Dd (.lst (acc ++ [y])))) (fun H3 => Made H1 Dd _ H3) hi p1 (fun hb H' f => ?_) (fun hb H' f => ?_)
  · refine ⟨_, f.at0 p2, Nat.lt_of_le_of_lt (filt_len _ _ _) (Nat.lt_of_lt_of_le hlt (sl1000 hn)), (p1.trans f).then_put_new hD, ?_⟩
    rw [filt_succ, if_pos hb]; exact upd_same
  · refine ⟨p1.trans f, ?_⟩
    rw [filt_succ, if_neg (by rw [hb]; exact Bool.false_ne_true), List.append_nil]; exact f.at0 p2
theorem lc_yes {σ : Stt} {H : Hp} {A : Bool → Hp → Prop} (k : A true H) : tYes σ H A := k
end

/-! ### further rules -/
section
variable {X : Cx} {x : Str} {e a : Expr} {p p2 q pos : Pos} {ta te : TE}
theorem e_gint {i : Int} (hg : Gl X x) (h : ∃ t, X.mg x = some (.int i t)) (hd : (x == ("__debug__" : Str)) = false := by decide) : PE X (.Name x pos) (tC (.int i)) := by
  obtain ⟨t, h⟩ := h
  exact pe_glob hg h ⟨t, rfl⟩ hd
theorem e_gstr {z : Str} (hg : Gl X x) (h : ∃ t, X.mg x = some (.str z t)) (hd : (x == ("__debug__" : Str)) = false := by decide) : PE X (.Name x pos) (tC (.str z)) := by
  obtain ⟨t, h⟩ := h
  exact pe_glob hg h ⟨t, rfl⟩ hd
theorem e_ty {n : String} (hg : Gl X x) (hm : X.mg x = none) (hv : bootBuiltins x = some (.type n)) (hn : x ≠ "__name__" := by decide) (hd : (x == ("__debug__" : Str)) = false := by decide) : PE X (.Name x pos) (tC (.ty n)) :=
  pe_bltn hg hm hv rfl hn hd
theorem e_cls {c : Addr} (hg : Gl X x) (hm : X.mg x = some (.ref c)) (hd : (x == ("__debug__" : Str)) = false := by decide) : PE X (.Name x pos) (tC (.ref c)) := pe_glob hg hm rfl hd
/-- how many different ones -/
def dcount (ns : List Int) : Nat := (firstMet (fun i => ns.getD i 0) ns.length).length
def LenSetG (K : PySem.W.Frag) (x : V) (H : Hp) (Q : VK) : Prop := ∃ (l : Addr) (ns : List Int), x = .ref l ∧ SqL K H l (ns.map V.int) ∧ ns.length < 64 ∧ Q (.int (dcount ns : Nat)) H
def tLenSet (K : PySem.W.Frag) (ta : TE) : TE := fun σ H Q => ta σ H fun x H1 => LenSetG K x H1 Q
theorem e_lenSet (hc : X.calm = true) (hg : Gl X "len") (hm : X.mg "len" = none) (hg2 : Gl X "set") (hm2 : X.mg "set" = none) (ha : PE X a ta)
    (na : starEach [a] X.env = (false, eval a X.env) :: starEach [] X.env := by rfl) : PE X (.Call (.Name "len" p) [.Call (.Name "set" p2) [a] [] q] [] pos) (tLenSet X.K ta) := by
  refine ⟨fun pn s σ H Qk J hw => ?_⟩
  refine Call_ (ld_blt J hg hm PySem.boot_len (PyProof.Rows.callWith_builtin1 (PyProof.Rows.args_cons ?_ rfl) rfl rfl))
  refine Call_ (ld_blt J hg2 hm2 PyProof.Rows.boot_set (PyProof.Rows.callWith_type1 (PyProof.Rows.args_cons (thn (ha.run pn s σ H _ J hw) ?_) na) na rfl))
  rintro v sa ⟨y, Ha, Ja, ry, l, ns, rfl, hq, hlt, goal⟩
  refine PyProof.Rows.args_nil ?_
  cases ry
  obtain ⟨its, r, pl, -⟩ := Ja.list hq
  have size : its.toArray.size = ns.length := by rw [List.size_toArray, ← r.length, List.length_map]
  refine call_set_list (Ja.ok.hd hc) pl.isList (ns := ns) (by simpa using r.ints) (by unfold scanBound; omega) fun hb tk hS hk => PyProof.Rows.args_nil ?_
  rw [size] at hS
  have le := firstMet_length_le (fun i => ns.getD i 0) ns.length
  obtain ⟨o, es, ep, t, ho, hex, hd, -, -, -, hf, hn⟩ := hS
  have Jb : Inv X pn σ Ha { sa with heap := hb, toks := tk } := Ja.kept fun b u z => hk b u (Heap.lt_size z) z
  exact call_len_set ho hex hd hf (by rw [hn]; omega) ⟨.int (dcount ns : Nat), Ha, Jb.tok _, ⟨_, by rw [hn]; rfl⟩, goal⟩
theorem firstMet_mem (val : Nat → Int) : ∀ i k, k ∈ firstMet val i ↔ ∃ j, j < i ∧ val j = k
  | 0, k => by simp [firstMet_zero]
  | i + 1, k => by
    have ih := firstMet_mem val i
    have step : k ∈ step_dedup (firstMet val i) (val i) ↔ k ∈ firstMet val i ∨ k = val i := by
      unfold step_dedup
      split
      · rename_i h
        obtain ⟨z, hz, e⟩ := List.any_eq_true.mp h
        have e' : z = val i := by simpa using e
        constructor
        · exact .inl
        · rintro (m | rfl)
          · exact m
          · rw [← e']; exact hz
      · simp [List.mem_append]
    rw [firstMet_succ, step, ih k]
    constructor
    · rintro (⟨j, hj, e⟩ | rfl)
      · exact ⟨j, by omega, e⟩
      · exact ⟨i, by omega, rfl⟩
    · rintro ⟨j, hj, e⟩
      by_cases z : j = i
      · subst z; exact .inr e.symm
      · exact .inl ⟨j, by omega, e⟩
theorem dcount_le (ns : List Int) : dcount ns ≤ ns.length := firstMet_length_le _ _
theorem firstMet_nd (val : Nat → Int) : ∀ i, (firstMet val i).length = i → ∀ a b, a < i → b < i → val a = val b → a = b
  | 0, _, a, b, h, _, _ => by omega
  | i + 1, e, a, b, ha, hb, q => by
    rw [firstMet_succ, step_length] at e
    have le := firstMet_length_le val i
    split at e
    · omega
    · rename_i h
      have el : (firstMet val i).length = i := by omega
      have no : ∀ j, j < i → val j ≠ val i := fun j hj z => h (List.any_eq_true.mpr ⟨val j, (firstMet_mem val i (val j)).mpr ⟨j, hj, rfl⟩, by simpa using z⟩)
      by_cases z1 : a = i
      · by_cases z2 : b = i
        · omega
        · subst z1; exact absurd q.symm (no b (by omega))
      · by_cases z2 : b = i
        · subst z2; exact absurd q (no a (by omega))
        · exact firstMet_nd val i el a b (by omega) (by omega) q
/-- as many different ones as there are: no two alike -/
theorem nodup_of_dcount {ns : List Int} (h : ¬ (dcount ns : Int) < (ns.length : Int)) : ns.Nodup := by
  have e : dcount ns = ns.length := by have := dcount_le ns; omega
  have nd := firstMet_nd (fun i => ns.getD i 0) ns.length e
  refine List.pairwise_iff_getElem.mpr fun i j hi hj hij z => ?_
  have := nd i j hi hj (by
    show ns.getD i 0 = ns.getD j 0
    rw [List.getD_eq_getElem?_getD, List.getD_eq_getElem?_getD, List.getElem?_eq_getElem hi, List.getElem?_eq_getElem hj, z])
  omega
theorem dcount_of_nodup {ns : List Int} (h : ns.Nodup) : dcount ns = ns.length := by
  unfold dcount
  rw [firstMet_nodup ns h ns.length (Nat.le_refl _), List.take_length]
def rMin2 : List V → Hp → VK → Prop := fun xs H Q => ∃ i j, xs = [.int i, .int j] ∧ Q (.int (if j < i then j else i)) H
def rMax2 : List V → Hp → VK → Prop := fun xs H Q => ∃ i j, xs = [.int i, .int j] ∧ Q (.int (if j > i then j else i)) H
theorem c_min2 (hc : X.calm = true) : CallR X (.builtin "min") rMin2 := call_min2 hc
theorem c_max2 (hc : X.calm = true) : CallR X (.builtin "max") rMax2 := call_max2 hc
/-- list(range(n)) -/
def LRgG (x : V) (H : Hp) (Q : VK) : Prop := ∃ n : Int, x = .int n ∧ RgOk 0 n ∧ ∀ q, H q = none → Q (.ref q) (upd H q (.lst (rgV 0 n)))
def tLRg (ta : TE) : TE := fun σ H Q => ta σ H fun x H1 => LRgG x H1 Q
theorem rgV0 (n : Int) : rgV 0 n = (List.range n.toNat).map fun (i : Nat) => V.int (i : Int) := by
  unfold rgV
  rw [Int.sub_zero]
  refine List.map_congr_left fun i _ => ?_
  rw [Int.zero_add]
theorem x_lrg {σ : Stt} {H : Hp} {Q : VK} (k : ta σ H fun x H1 => LRgG x H1 Q) : tLRg ta σ H Q := k
theorem x_lrgg {H : Hp} {Q : VK} {n : Int} (h : 0 ≤ n ∧ n ≤ 100000) (k : ∀ q, H q = none → Q (.ref q) (upd H q (.lst ((List.range n.toNat).map fun (i : Nat) => V.int (i : Int))))) : LRgG (.int n) H Q :=
  ⟨n, rfl, ⟨by omega, by omega, by omega, by omega, by omega⟩, by rw [rgV0]; exact k⟩
theorem e_lrg (hc : X.calm = true) (hg : Gl X "list") (hm : X.mg "list" = none) (hg2 : Gl X "range") (hm2 : X.mg "range" = none) (ha : PE X a ta) (na : starEach [a] X.env = (false, eval a X.env) :: starEach [] X.env := by rfl)
    (nb : starEach [.Call (.Name "range" p2) [a] [] q] X.env = (false, eval (.Call (.Name "range" p2) [a] [] q) X.env) :: starEach [] X.env := by rfl) : PE X (.Call (.Name "list" p) [.Call (.Name "range" p2) [a] [] q] [] pos) (tLRg ta) :=
  pe_listRg (p := p) (pos := pos) hc hg hm (prg_1 (p := p2) (pos := q) hg2 hm2 ha na) nb
theorem x_lenSet {σ : Stt} {H : Hp} {Q : VK} {K : PySem.W.Frag} (k : ta σ H fun x H1 => LenSetG K x H1 Q) : tLenSet K ta σ H Q := k
theorem x_lenSetg {H : Hp} {Q : VK} {K : PySem.W.Frag} {l : Addr} {ns : List Int} (h : H l = some (.lst (ns.map V.int))) (hn : ns.length < 64) (k : Q (.int (dcount ns : Nat)) H) : LenSetG K (.ref l) H Q := ⟨l, ns, rfl, SqL.of h, hn, k⟩
end
theorem ne_new {H : Hp} {p q : Addr} {o : HO} (h' : H q = none) (h : H p = some o) : p ≠ q := ne_of_none h h'
section
variable {H : Hp} {Q : VK} {K : PySem.W.Frag} {T : String} {b : Bool}
theorem x_isi {x : V} {c : String} (ty : TyX K H x (.type c)) (e : kitB c T = some b) (k : Q (.bl b) H) : rIsi K [x, .ty T] H Q := ⟨x, .ty T, .type c, .type T, b, rfl, .ty T, ty, kit_ty e, k⟩
theorem x_isiII {i : Int} (k : Q (.bl true) H) : rIsi K [.int i, .ty "int"] H Q := x_isi (.base (.int i)) (by decide +kernel) k
theorem x_isiIB {i : Int} (k : Q (.bl false) H) : rIsi K [.int i, .ty "bool"] H Q := x_isi (.base (.int i)) (by decide +kernel) k
theorem x_isiBI {i : Bool} (k : Q (.bl true) H) : rIsi K [.bl i, .ty "int"] H Q := x_isi (.base (.bl i)) (by decide +kernel) k
theorem x_isiBB {i : Bool} (k : Q (.bl true) H) : rIsi K [.bl i, .ty "bool"] H Q := x_isi (.base (.bl i)) (by decide +kernel) k
theorem x_isiNI (k : Q (.bl false) H) : rIsi K [.non, .ty "int"] H Q := x_isi (.base .non) (by decide +kernel) k
theorem x_isiNL (k : Q (.bl false) H) : rIsi K [.non, .ty "list"] H Q := x_isi (.base .non) (by decide +kernel) k
theorem x_isiIL {i : Int} (k : Q (.bl false) H) : rIsi K [.int i, .ty "list"] H Q := x_isi (.base (.int i)) (by decide +kernel) k
theorem x_isiSI {i : Str} (k : Q (.bl false) H) : rIsi K [.str i, .ty "int"] H Q := x_isi (.base (.str i)) (by decide +kernel) k
theorem x_isiSL {i : Str} (k : Q (.bl false) H) : rIsi K [.str i, .ty "list"] H Q := x_isi (.base (.str i)) (by decide +kernel) k
theorem x_isiLL {a : Addr} {xs : List V} (h : H a = some (.lst xs)) (k : Q (.bl true) H) : rIsi K [.ref a, .ty "list"] H Q := x_isi (.base (.lst h)) (by decide +kernel) k
theorem x_isiLI {a : Addr} {xs : List V} (h : H a = some (.lst xs)) (k : Q (.bl false) H) : rIsi K [.ref a, .ty "int"] H Q := x_isi (.base (.lst h)) (by decide +kernel) k
theorem x_isiTL {a : Addr} {xs : List V} (h : H a = some (.tup xs)) (k : Q (.bl false) H) : rIsi K [.ref a, .ty "list"] H Q := x_isi (.base (.tup h)) (by decide +kernel) k
theorem x_isiTT {a : Addr} {xs : List V} (h : H a = some (.tup xs)) (k : Q (.bl true) H) : rIsi K [.ref a, .ty "tuple"] H Q := x_isi (.base (.tup h)) (by decide +kernel) k
theorem x_isiLT {a : Addr} {xs : List V} (h : H a = some (.lst xs)) (k : Q (.bl false) H) : rIsi K [.ref a, .ty "tuple"] H Q := x_isi (.base (.lst h)) (by decide +kernel) k
end
/-! ### == of lists -/
theorem eqvAll_map {α : Type} [DecidableEq α] (f : α → PyData) (hf : ∀ a b, PyData.eqv (f a) (f b) = decide (a = b)) : ∀ xs ys : List α, PyData.eqvAll (xs.map f) (ys.map f) = decide (xs = ys)
  | [], [] => by simp [PyData.eqvAll]
  | [], y :: ys => by simp [PyData.eqvAll]
  | x :: xs, [] => by simp [PyData.eqvAll]
  | x :: xs, y :: ys => by
    rw [List.map_cons, List.map_cons, PyData.eqvAll, hf, eqvAll_map f hf xs ys]
    by_cases h1 : x = y <;> by_cases h2 : xs = ys <;> simp [h1, h2]
theorem lay_map {α : Type} (f : α → PyData) (hf : ∀ a, (f a).canLay0 = true) : ∀ xs : List α, PyData.canLayAll0 (xs.map f) = true
  | [] => rfl
  | x :: xs => by rw [List.map_cons, PyData.canLayAll0, hf, lay_map f hf xs]; rfl
theorem depth_map {α : Type} (f : α → PyData) {n : Nat} (hf : ∀ a, (f a).depth ≤ n) : ∀ xs : List α, PyData.depthAll (xs.map f) ≤ n
  | [] => Nat.zero_le _
  | x :: xs => by
    rw [List.map_cons, PyData.depthAll]
    exact Nat.max_le.mpr ⟨hf x, depth_map f hf xs⟩
/-- how things of a kind lie as data -/
structure Enc (α : Type) [DecidableEq α] where
  f : α → PyData
  eq : ∀ a b, PyData.eqv (f a) (f b) = decide (a = b)
  lay : ∀ a, (f a).canLay0 = true
  dep : ∀ a, (f a).depth ≤ 20
theorem Enc.shaped {α : Type} [DecidableEq α] (e : Enc α) (xs : List α) : SeqAt.shaped (.list (xs.map e.f)) = true := by
  unfold SeqAt.shaped
  rw [PyData.canLay0, lay_map e.f e.lay]
  refine (Bool.true_and _).trans (decide_eq_true ?_)
  rw [PyData.depth]
  have := depth_map e.f e.dep xs
  omega
def encInt : Enc Int := ⟨.int, fun a b => by simp [PyData.eqv, Bool.beq_eq_decide_eq], fun _ => rfl, fun _ => Nat.zero_le _⟩
/-- at x is a list of such things -/
def LstD (K : PySem.W.Frag) (H : Hp) (x : V) (ds : List PyData) : Prop := ∃ a vs, x = .ref a ∧ SqL K H a vs ∧ DpAll K H vs ds
section
variable {H : Hp} {Q : VK} {K : PySem.W.Frag} {x y : V} {α : Type} [DecidableEq α]
theorem x_eqL (e : Enc α) {xs ys : List α} (hx : LstD K H x (xs.map e.f)) (hy : LstD K H y (ys.map e.f)) (k : Q (.bl (decide (xs = ys))) H) : rEqD K x y H Q := by
  obtain ⟨a, vs, rfl, h1, h2⟩ := hx
  obtain ⟨b, ws, rfl, h3, h4⟩ := hy
  refine ⟨_, _, .lst h1 h2, .lst h3 h4, e.shaped xs, e.shaped ys, ?_⟩
  rw [PyData.eqv, eqvAll_map e.f e.eq]; exact k
theorem x_neL (e : Enc α) {xs ys : List α} (hx : LstD K H x (xs.map e.f)) (hy : LstD K H y (ys.map e.f)) (k : Q (.bl (!decide (xs = ys))) H) : rNeD K x y H Q := by
  obtain ⟨a, vs, rfl, h1, h2⟩ := hx
  obtain ⟨b, ws, rfl, h3, h4⟩ := hy
  refine ⟨_, _, .lst h1 h2, .lst h3 h4, e.shaped xs, e.shaped ys, ?_⟩
  rw [PyData.eqv, eqvAll_map e.f e.eq]; exact k
theorem dp_ints : ∀ ns : List Int, DpAll K H (ns.map V.int) (ns.map encInt.f)
  | [] => .nil
  | n :: ns => .cons (.int n) (dp_ints ns)
theorem lst_ints {a : Addr} {ns : List Int} (h : SqL K H a (ns.map V.int)) : LstD K H (.ref a) (ns.map encInt.f) := ⟨a, _, rfl, h, dp_ints ns⟩
theorem lst_nil {a : Addr} (e : Enc α) (h : H a = some (.lst [])) : LstD K H (.ref a) (([] : List α).map e.f) := ⟨a, [], rfl, SqL.of h, .nil⟩
end

theorem map_ix {α β : Type} {f : α → β} {xs : List α} {i : Nat} {x : α} (h : xs[i]? = some x) : (xs.map f)[i]? = some (f x) := by rw [List.getElem?_map, h]; rfl
theorem map_set {α β : Type} (f : α → β) (xs : List α) (i : Nat) (x : α) : (xs.map f).set i (f x) = (xs.set i x).map f := by
  rw [List.map_set]
theorem mod_nat {n : Int} {L : Nat} (h : 0 < L) : ∃ i : Nat, n % (L : Int) = (i : Int) ∧ i < L := by
  refine ⟨(n % (L : Int)).toNat, ?_, ?_⟩
  · have := Int.emod_nonneg n (show (L : Int) ≠ 0 by omega); omega
  · have := Int.emod_nonneg n (show (L : Int) ≠ 0 by omega)
    have := Int.emod_lt_of_pos n (show 0 < (L : Int) by omega); omega
theorem at_lt {α : Type} {xs : List α} {i : Nat} (h : i < xs.length) : ∃ x, xs[i]? = some x := ⟨xs[i], List.getElem?_eq_getElem h⟩
theorem lt_at {α : Type} {xs : List α} {i : Nat} {x : α} (h : xs[i]? = some x) : i < xs.length := (List.getElem?_eq_some_iff.mp h).1
/-! ### options, pairs of a word and a number -/
def optV : Option Int → V
  | none => .non
  | some i => .int i
def encOpt : Enc (Option Int) := ⟨fun | none => .none | some i => .int i, fun a b => by cases a <;> cases b <;> simp [PyData.eqv, Bool.beq_eq_decide_eq], fun a => by cases a <;> rfl, fun a => by cases a <;> exact Nat.zero_le _⟩
theorem dp_opts {K : PySem.W.Frag} {H : Hp} : ∀ ns : List (Option Int), DpAll K H (ns.map optV) (ns.map encOpt.f)
  | [] => .nil
  | none :: ns => .cons .non (dp_opts ns)
  | some n :: ns => .cons (.int n) (dp_opts ns)
theorem lst_opts {K : PySem.W.Frag} {H : Hp} {a : Addr} {ns : List (Option Int)} (h : SqL K H a (ns.map optV)) : LstD K H (.ref a) (ns.map encOpt.f) := ⟨a, _, rfl, h, dp_opts ns⟩
abbrev Let := Bool × Int
def wd : Bool → Str
  | false => "name"
  | true => "chosen"
theorem wd_eq {a b : Bool} : (wd a = wd b) ↔ a = b := by cases a <;> cases b <;> simp [wd] <;> decide
def encLet : Enc Let := ⟨fun p => .tuple [.str (wd p.1), .int p.2], fun a b => by
    obtain ⟨a1, a2⟩ := a
    obtain ⟨b1, b2⟩ := b
    simp only [PyData.eqv, PyData.eqvAll, Bool.beq_eq_decide_eq, Bool.and_true, Prod.mk.injEq]
    by_cases h1 : a1 = b1 <;> by_cases h2 : a2 = b2 <;> simp [h1, h2, wd_eq], fun a => by
    obtain ⟨b, i⟩ := a
    cases b <;> simp only [PyData.canLay0, PyData.canLayAll0, wd, Bool.and_true] <;> decide +kernel, fun a => by simp [PyData.depth, PyData.depthAll]⟩
/-- letters at addresses -/
def Lets (H : Hp) : List Addr → List Let → Prop
  | [], [] => True
  | t :: ts, w :: ws => H t = some (.tup [.str (wd w.1), .int w.2]) ∧ Lets H ts ws
  | _, _ => False
theorem Lets.fr {F : Addr → Prop} {H H' : Hp} (f : Fr F H H') : ∀ {ts ws}, Lets H ts ws → Lets H' ts ws
  | [], [], _ => trivial
  | _ :: _, _ :: _, h => ⟨f.tup _ _ h.1, Lets.fr f h.2⟩
theorem Lets.add {H : Hp} {t : Addr} {w : Let} (h1 : H t = some (.tup [.str (wd w.1), .int w.2])) : ∀ {ts ws}, Lets H ts ws → Lets H (ts ++ [t]) (ws ++ [w])
  | [], [], _ => ⟨h1, trivial⟩
  | _ :: _, _ :: _, h => ⟨h.1, Lets.add h1 h.2⟩
theorem Lets.len {H : Hp} : ∀ {ts ws}, Lets H ts ws → ts.length = ws.length
  | [], [], _ => rfl
  | _ :: _, _ :: _, h => by rw [List.length_cons, List.length_cons, Lets.len h.2]
theorem dp_lets {K : PySem.W.Frag} {H : Hp} : ∀ {ts ws}, Lets H ts ws → DpAll K H (ts.map V.ref) (ws.map encLet.f)
  | [], [], _ => .nil
  | _ :: _, _ :: _, h => .cons (.tup (SqT.of h.1) (.cons (.str _) (.cons (.int _) .nil))) (dp_lets h.2)
theorem lst_lets {K : PySem.W.Frag} {H : Hp} {a : Addr} {ts : List Addr} {ws : List Let} (h : H a = some (.lst (ts.map V.ref))) (hl : Lets H ts ws) : LstD K H (.ref a) (ws.map encLet.f) := ⟨a, _, rfl, SqL.of h, dp_lets hl⟩

/-! ### lists of new lists -/
structure NewL (H1 : Hp) (Dd : Addr) (ps : List Addr) (H : Hp) : Prop where
  fr : Fr F0 H1 H
  nd : (Dd :: ps).Nodup
  nw : ∀ p ∈ ps, H1 p = none ∧ H p = some (.lst [])
  at_ : H Dd = some (.lst (ps.map V.ref))
theorem NewL.step {H1 : Hp} {Dd : Addr} {ps : List Addr} {H : Hp} (hD : H1 Dd = none) (h : NewL H1 Dd ps H) {p : Addr} (hp : H p = none) :
    NewL H1 Dd (ps ++ [p]) (upd (upd H p (.lst [])) Dd (.lst (ps.map V.ref ++ [.ref p]))) := by
  have pD : p ≠ Dd := (ne_of_none h.at_ hp).symm
  have pn : ∀ q ∈ ps, q ≠ p := fun q hq => ne_of_none (h.nw q hq).2 hp
  have nd := h.nd
  rw [List.nodup_cons] at nd
  refine ⟨(h.fr.trans (.new hp)).then_put_new hD, ?_, fun q hq => ?_, by rw [List.map_append]; exact upd_same⟩
  · rw [List.nodup_cons, List.mem_append, List.nodup_append]
    refine ⟨fun z => ?_, nd.2, by simp, fun a ha b hb => ?_⟩
    · rcases z with z | z
      · exact nd.1 z
      · exact pD (List.mem_singleton.mp z).symm
    · rw [List.mem_singleton] at hb; subst hb
      exact pn a ha
  · rcases List.mem_append.mp hq with z | z
    · exact ⟨(h.nw q z).1, upd_at (upd_at (h.nw q z).2 (pn q z)) (fun e => nd.1 (e ▸ z))⟩
    · rw [List.mem_singleton] at z; subst z
      exact ⟨h.fr.back0 hp, upd_at upd_same pD⟩
section
variable {σ : Stt} {H H1 : Hp} {Q : VK} {K : PySem.W.Frag} {j : Nat}
theorem lc_rngN {n : Nat} (hn : n ≤ 100000) (hw : ∀ x, wipe ((wipe σ [j]).set j (some x)) [j] = wipe σ [j])
    (hd : ∀ Dd ps H, H1 Dd = none → ps.length = n → NewL H1 Dd ps H → Q (.ref Dd) H) : LcG (gName j) tYes (tLstQ tNil) [j] σ Q (Itr 0 n) H1 := by
  refine lc_rng (fun Dd i H => ∃ ps, ps.length = i ∧ NewL H1 Dd ps H) (fun Dd hD => ⟨[], rfl, .new hD, by simp, by simp, upd_same⟩) (fun Dd i H hD hi p => ?_) (fun Dd H hD p => ?_)
  · obtain ⟨ps, e, q⟩ := p
    refine ⟨hw _, lc_yes (x_t ?_)⟩
    refine x_lst (x_nil (x_new (Nat.le_of_ble_eq_true rfl) fun p hp => ?_))
    exact ⟨_, upd_at q.at_ (ne_of_none q.at_ hp), by rw [List.length_map]; exact Nat.lt_of_lt_of_le (show ps.length < n by omega) (sl1000 hn), ps ++ [p], by simp [e], q.step hD hp⟩
  · obtain ⟨ps, e, q⟩ := p
    exact hd Dd ps H hD e q
theorem lc_lstN {a : Addr} {xs : List V} (ha : H1 a = some (.lst xs)) (hn : xs.length ≤ 100000) (hw : ∀ x, wipe ((wipe σ [j]).set j (some x)) [j] = wipe σ [j])
    (hd : ∀ Dd ps H, H1 Dd = none → ps.length = xs.length → NewL H1 Dd ps H → Q (.ref Dd) H) : LcG (gName j) tYes (tLstQ tNil) [j] σ Q (Itl K a) H1 := by
  refine lc_lst xs (fun Dd i H => ∃ ps, ps.length = i ∧ NewL H1 Dd ps H) (fun Dd hD => ⟨[], rfl, .new hD, by simp, by simp, upd_same⟩) (fun Dd i H hD hi ⟨ps, e, q⟩ => q.fr.at0 ha) (fun Dd i x H hD hx p => ?_) (fun Dd H hD p => ?_)
  · obtain ⟨ps, e, q⟩ := p
    have := lt_at hx
    refine ⟨hw _, lc_yes (x_t ?_)⟩
    refine x_lst (x_nil (x_new (Nat.le_of_ble_eq_true rfl) fun p hp => ?_))
    exact ⟨_, upd_at q.at_ (ne_of_none q.at_ hp), by rw [List.length_map]; exact Nat.lt_of_lt_of_le (show ps.length < xs.length by omega) (sl1000 hn), ps ++ [p], by simp [e], q.step hD hp⟩
  · obtain ⟨ps, e, q⟩ := p
    exact hd Dd ps H hD e q
theorem x_all {a : Addr} {bs : List Bool} (h : H a = some (.lst (bs.map V.bl))) (k : Q (.bl (bs.all id)) H) : rAll K [.ref a] H Q := ⟨a, bs, rfl, SqL.of h, k⟩
theorem x_any {a : Addr} {bs : List Bool} (h : H a = some (.lst (bs.map V.bl))) (k : Q (.bl (bs.any id)) H) : rAny K [.ref a] H Q := ⟨a, bs, rfl, SqL.of h, k⟩
theorem x_sum {a : Addr} {ns : List Int} (h : H a = some (.lst (ns.map V.int))) (k : Q (.int ns.sum) H) : rSum K [.ref a] H Q := ⟨a, ns, rfl, SqL.of h, k⟩
theorem rep_one {α : Type} (x : α) : ∀ n : Nat, (List.replicate n [x]).flatten = List.replicate n x
  | 0 => rfl
  | n + 1 => by rw [List.replicate_succ, List.flatten_cons, rep_one x n]; rfl
theorem x_rep1 {a : Addr} {n : Nat} {x : V} (h : H a = some (.lst [x])) (hn : n ≤ 1000) (k : ∀ p, H p = none → Q (.ref p) (upd H p (.lst (List.replicate n x)))) : rRep (.ref a) (.int n) H Q :=
  x_rep h ⟨by omega, by omega⟩ (by simp) fun p hp => by
    have := k p hp
    rw [Int.toNat_natCast, rep_one]; exact this
theorem map_rep {α β : Type} (f : α → β) (n : Nat) (x : α) : List.replicate n (f x) = (List.replicate n x).map f := by simp
theorem filt_all {n : Nat} : (List.range n).filter (fun _ => true) = List.range n := List.filter_eq_self.mpr (by simp)
end
/-! ### joins -/
theorem x_ifj {t : TT} {tu tw : TS} {D : Ends} {σ : Stt} {H : Hp} (P : Stt → Hp → Prop) (h2 : ∀ N, (∀ σ H, P σ H → N σ H) → tIfS t tu tw { D with nx := N } σ H) (h1 : ∀ σ H, P σ H → D.nx σ H) : tIfS t tu tw D σ H := h2 D.nx h1
theorem x_tj {t : TT} {σ : Stt} {H : Hp} {QT : Bool → Hp → Prop} (P : Bool → Hp → Prop) (h2 : ∀ Q, (∀ b H, P b H → Q b H) → t σ H Q) (h1 : ∀ b H, P b H → QT b H) : t σ H QT := h2 QT h1
theorem x_ej {t : TE} {σ : Stt} {H : Hp} {Q : VK} (P : V → Hp → Prop) (h2 : ∀ Q, (∀ v H, P v H → Q v H) → t σ H Q) (h1 : ∀ v H, P v H → Q v H) : t σ H Q := h2 Q h1
theorem x_sj {ts : TS} {D : Ends} {σ : Stt} {H : Hp} (P : Stt → Hp → Prop) (h2 : ∀ N, (∀ σ H, P σ H → N σ H) → ts { D with nx := N } σ H) (h1 : ∀ σ H, P σ H → D.nx σ H) : ts D σ H := h2 D.nx h1
theorem range_getD {α β : Type} (f : α → β) (d : α) : ∀ xs : List α, (List.range xs.length).map (fun i => f (xs.getD i d)) = xs.map f := fun xs => by
  refine List.ext_getElem? fun i => ?_
  rw [List.getElem?_map, List.getElem?_map]
  by_cases c : i < xs.length
  · rw [List.getElem?_range c, List.getElem?_eq_getElem c]
    simp [List.getD_eq_getElem?_getD, List.getElem?_eq_getElem c]
  · rw [List.getElem?_eq_none (by simpa using c), List.getElem?_eq_none (by simpa using c)]; rfl

/-! ### the values of a dict with tuples as keys -/
def ItvT (d : Addr) (o : Obj) (kvs : List (List Key × V)) : It :=
  ⟨fun i H => H d = some (.frz o (.dT kvs)) ∧ i < kvs.length, fun i H x H' => H' = H ∧ ∃ k, kvs[i]? = some (k, x), fun i H => H d = some (.frz o (.dT kvs)) ∧ kvs.length ≤ i⟩
theorem frz_rawT {X : Cx} {pins : List (Addr × Obj)} {σ : Stt} {H : Hp} {s : Shared} {d : Addr} {o : Obj} {kvs : List (List Key × V)} (I : Inv X pins σ H s) (h : H d = some (.frz o (.dT kvs))) :
    (d == sysModules) = false ∧ s.heap.get? d = some o ∧ o.ExactDict ∧ ∃ (es : Array DictEntry) (ep : Nat), o.data = .dict es ep ∧ es.size = kvs.length ∧
      ∀ (i : Nat) (k : List Key) (v : V), kvs[i]? = some (k, v) → ∃ en : DictEntry, es[i]? = some en ∧ RelV v en.val := by
  obtain ⟨hd, z, hs, xs, pr, o', es, ep, ho, hx, hdt, he, _⟩ := I.hok d _ h
  rw [hd] at ho
  cases ho
  refine ⟨hs, hd, hx, es, ep, hdt, ?_, fun i k v e => ?_⟩
  · have l1 : es.size = xs.length := size_of_entries he
    have l2 : kvs.length = xs.length := Paired.length pr
    omega
  · obtain ⟨b, hb, _, _, e3⟩ := paired_get pr e
    have q := entry_at he i
    rw [hb] at q
    exact ⟨_, q, e3⟩
theorem turn_vT {P : Program} {w : World} {K : PySem.W.Frag} {tg : Expr} {d : Addr} {o : Obj} {es : Array DictEntry} {ep : Nat} {kvs : List (List Key × V)} (it : Addr) (hod : o.data = .dict es ep) (hes : es.size = kvs.length) :
    Turn P w K tg (ItvT d o kvs) [it] it (fun i h => h.IsValIter it d i es.size ep) where
  mem := List.mem_singleton.mpr rfl
  obj := fun i h st b hb => by
    rw [List.mem_singleton.mp hb]
    obtain ⟨oi, e, c, dd⟩ := st
    exact ⟨oi, e, fun v z => by rw [dd] at z; cases z⟩
  keep := fun i h h' st k => Heap.IsValIter.at st fun oi e => k it (List.mem_singleton.mpr rfl) oi e
  item := by
    intro X hP hw hK hc i pins s σ H E I hf st hg
    subst hP hw hK
    have me : it ∈ [it] := List.mem_singleton.mpr rfl
    obtain ⟨f0, f1, f2, f3, f4, f5⟩ := hf it me
    obtain ⟨_, hgd, hx, es', ep', hdt, hsz, ent⟩ := frz_rawT I hg.1
    obtain ⟨rfl, rfl⟩ := dict_ep hod hdt
    have lt : i < kvs.length := hg.2
    obtain ⟨en, hen, rv⟩ := ent i kvs[i].1 kvs[i].2 (List.getElem?_eq_getElem lt)
    refine wpAny_pyNext_values_item_raw st ⟨o, hgd, hx, hdt⟩ (by rw [hsz]; exact lt) fun h' st' sb => ?_
    have I1 : Inv X pins σ H { s with heap := h' } := I.turned (t' := s.toks) (fun b ob hb e => (sb.2 b hb).trans e) f0 f1 f3 f4 f5
    obtain ⟨oi, e, c, dd⟩ := id st'
    have ev : es'[i].val = en.val := by
      have := Array.getElem?_eq_getElem (xs := es') (i := i) (by rw [hsz]; exact lt)
      rw [hen] at this
      exact congrArg DictEntry.val (Option.some.inj this).symm
    rw [ev]
    exact ⟨en.val, rfl, go_of (s := { s with heap := h' }) e c dd (by decide) ⟨kvs[i].2, H, I1, rv, ⟨rfl, kvs[i].1, List.getElem?_eq_getElem lt⟩, st', fun b hb => (hf b hb).1⟩⟩
  done := by
    intro X hP hw hK hc i pins s σ H E I hf st hg
    subst hP hw hK
    obtain ⟨f0, f1, f2, f3, f4, f5⟩ := hf it (List.mem_singleton.mpr rfl)
    obtain ⟨_, hgd, hx, es', ep', hdt, hsz, ent⟩ := frz_rawT I hg.1
    obtain ⟨rfl, rfl⟩ := dict_ep hod hdt
    exact wpAny_pyNext_values_end_raw (I.ok.hd hc) st ⟨o, hgd, hx, hdt⟩ (by rw [hsz]; exact hg.2) fun h' eb => ⟨rfl, I.turned (t' := s.toks) (fun b ob hb e => eb b ob hb e) f0 f1 f3 f4 f5⟩
  self := fun A i s Q E st h => wpAny_pyIter_valiter st h
def ItvG (x : V) (H1 : Hp) (R : It → Hp → Prop) : Prop := ∃ d o kvs, x = .ref d ∧ H1 d = some (.frz o (.dT kvs)) ∧ R (ItvT d o kvs) H1
def iValsTQ (td : TE) : TI := fun σ H R => td σ H fun x H1 => ItvG x H1 R
theorem i_valsT {X : Cx} {tg e : Expr} {td : TE} {apos cpos : Pos} (he : PE X e td) (hbase : attributeBase e "values" X.env (eval e X.env) = eval e X.env := by rfl) (hline : (apos.endLine == cpos.line) = true := by rfl) : PI X tg (.Call (.Attribute e "values" apos) [] [] cpos) (iValsTQ td) := by
  refine ⟨fun pins s σ H R I h => ?_⟩
  refine wpAny_Call_method (T := "dict") (id := "dict.values") hbase rfl hline F.plainAttrs_dict F.slot_dict_values F.type_dict_values (thn (he.run pins s σ H _ I h) fun u s1 ⟨x, H1, I1, rx, d, o, kvs, ex, hd, q⟩ => ?_)
  subst ex
  obtain rfl : u = Value.ref d := rx
  obtain ⟨hs, hgd, hx, es, ep, hdt, hsz, ent⟩ := frz_rawT I1 hd
  have raw : s1.heap.DictRaw d es ep := ⟨o, hgd, hx, hdt⟩
  refine ⟨raw.typeIs, fun a e => by cases e; exact ⟨o, hgd, hx.2.1⟩, ?_⟩
  have I2 : Inv X pins σ H1 { s1 with heap := s1.heap.push { cls := .type "dict_values", data := .fields #[.ref d] } } := I1.kept (t' := s1.toks) fun b ob q => Heap.get?_push_of_some _ q
  have fin : wpAny (model X.prog X.w) X.A (pyIter (.ref s1.heap.objs.size)) (PIE X pins σ tg R) X.xe { s1 with heap := s1.heap.push { cls := .type "dict_values", data := .fields #[.ref d] } } :=
    wpAny_pyIter_values_raw (d := d) (es := es) (ep := ep) ⟨_, Heap.get?_push_size _ rfl, rfl, rfl⟩ (raw.at fun _ e => Heap.get?_push_of_some _ e) (pi_one (tk := s1.toks) I2 _ (turn_vT _ hdt hsz) ⟨_, Heap.get?_push_size _ rfl, rfl, rfl⟩ q)
  show wpAny _ _ (callWith cpos (.builtin "dict.values") [.ref d] [] []) _ X.xe s1
  exact method_meetsIn F.slot_dict_values F.entry_dict_values rfl (PySem.evalArgs_none ⟨rfl, raw.typeIs, F.args_dict_values_1 _, _, meets_dict_values_raw d hs, ⟨es, ep, raw⟩, fin⟩)
/-! ### setdefault with a tuple as key -/
theorem atKey_none_val {H : Hp} {kvs : List (List Key × V)} {xs : List (List Key × Addr × Value)} (r : KT H kvs xs) {k : List Key} (h : atKey xs k = none) : valV kvs k = none := by
  have q := r.val k
  rw [h] at q
  cases e : valV kvs k with
  | none => rfl
  | some v => rw [e] at q; exact False.elim q
theorem atKey_some_val {H : Hp} {kvs : List (List Key × V)} {xs : List (List Key × Addr × Value)} (r : KT H kvs xs) {k : List Key} {p : Addr × Value} (h : atKey xs k = some p) : ∃ v, valV kvs k = some v ∧ RelV v p.2 := by
  have q := r.val k
  rw [h] at q
  cases e : valV kvs k with
  | none => rw [e] at q; exact False.elim q
  | some v => rw [e] at q; exact ⟨v, rfl, q⟩
def rSetdT : V → List V → Hp → VK → Prop := fun x vs H Q => ∃ (a b : Addr) (kvs : List (List Key × V)) (k : List Key) (v : V), x = .ref a ∧ vs = [.ref b, v] ∧ H a = some (.dT kvs) ∧ H b = some (.tup (k.map kV)) ∧ kvs.length < sizeLine ∧
  (∀ u, valV kvs k = some u → Q u H) ∧ (valV kvs k = none → Q v (upd H a (.dT (putK kvs k v))))
theorem mt_setdT {X : Cx} (hu : X.A.units + 1 < cLine) : MtR X "dict.setdefault" rSetdT := by
  intro pins s σ H x xs v us Q I rx rxs h
  obtain ⟨a, b, kvs, k, d, rfl, rfl, ha, hb, hl, q1, q2⟩ := h
  cases rx
  obtain ⟨u1, u2, rfl, r1, r2⟩ := vals2 rxs
  cases r1
  obtain ⟨z, hd, xs', rel, dd⟩ := dt_of I.hok ha
  have hz : xs'.length ≤ sizeLine := by rw [← Paired.length rel]; exact z
  refine call_meetsIn PySem.F.slot_dict_setdefault dd.typeIs PySem.F.entry_dict_setdefault (PySem.F.args_dict_setdefault_3 _ _ _) (meetsH_dict_setdefault (tupleKind (mixKind X.prog X.w)) a b hd u2)
    ⟨tupleKind_room_in1 hu, k, xs', key_of I.hok hb, dd, hz, fun p hp => ?_, fun hn h' dd' hs => ?_⟩
  · obtain ⟨v0, ev, rv⟩ := atKey_some_val rel hp
    show EP X pins σ Q p.2 _
    exact ⟨v0, H, I.tok _, rv, q1 v0 ev⟩
  · have ev := atKey_none_val rel hn
    have l2 : (putK kvs k d).length ≤ sizeLine := by have := length_putK kvs k d; omega
    obtain ⟨o, es, ep, hq, h2, h3, h4, _, h5⟩ := dd'
    have I2 : Inv X pins σ (upd H a (.dT (putK kvs k d))) { s with heap := h', toks := s.toks + (tupleKind (mixKind X.prog X.w)).draws k } :=
      d_write I (by rw [ha]; exact True.intro) hs ⟨o, hq⟩ ⟨l2, hd, _, (rel.put k hb r2).keeps (fun c ys ec => (by rw [upd_ne (ne_of ec ha (fun z => nomatch z))]; exact ec)), o, es, ep, hq, h2, h3, h4, h5⟩
    show EP X pins σ Q u2 _
    exact ⟨d, _, I2, r2, q2 ev⟩

/-! ### set(xs) of a list of hin, in the form that can be walked -/
abbrev nwS (w : World) : Obj := { cls := .type "set", dict := none, data := .set #[] 0 (.fresh 0 0 (!w.params.followText "set-order")) }
section
variable {P : Program} {w : World} {A : Around} {E : Value → Shared → Prop} {z : Shared}
/-- what the filling of the new set leaves behind -/
def Filled (w : World) (z : Shared) (ns : List Int) (r : Value) (y : Shared) : Prop :=
  r = .none ∧ ∃ hp tk m, y = { z with heap := hp, toks := tk } ∧ SetR w hp z.heap.objs.size (fun j => decide (j ∈ ns)) m ∧ m ≤ ns.length ∧ ∀ b o, z.heap.get? b = some o → hp.get? b = some o
theorem set_fill {l : Addr} {items : Array Value} (ns : List Int) (hh : A.handled = none) (hl : z.heap.IsList l items) (hin : IntsAre items.toList ns) (room : ns.length + 1 < scanBound) :
    codeAny (model P w) A (.call (.builtin "set.__init__") ⟨[.ref z.heap.objs.size, .ref l], []⟩) (wants (Filled w z ns) E) { z with heap := z.heap.push (nwS w) } := by
  have sz : items.size = ns.length := by simpa using hin.length
  have atS : (z.heap.push (nwS w)).get? z.heap.objs.size = some (nwS w) := Heap.get?_push_size _ rfl
  have ty : Shared.TypeIs { z with heap := z.heap.push (nwS w) } (.ref z.heap.objs.size) "set" := ⟨_, atS, rfl⟩
  refine codeAny_call_builtin (R := wants (Filled w z ns) E) F.called_set.init.plain F.entry_set_init (check_set_init_1 ty ?_)
  have lt : l < z.heap.objs.size := let ⟨_, e, _⟩ := hl; Heap.lt_size e
  have hl1 : (z.heap.push (nwS w)).IsList l items := hl.push _
  obtain ⟨ol, hol, hcl, nl, hdl⟩ := hl1
  have hl2 : (z.heap.push (nwS w)).IsList l items := ⟨ol, hol, hcl, nl, hdl⟩
  obtain ⟨ocls, odict, odata, oslots⟩ := ol
  cases (show ocls = _ from hcl)
  cases (show odata = _ from hdl)
  have k1 := F.sub_list_set
  have k2 := F.sub_list_frozenset
  have k3 : (Value.type "list" == Value.type "dict") = false := by decide
  unfold Builtin.«set.__init__» noKeywords Builtin.Frozenset.updateFrom
  generalize ePI : pyIter = PI
  wp_walk
  subst ePI
  refine wpAny_pyIter_list hl2 ?_
  refine wpAny_bind (wpAny_runValue ?_)
  have nI : l ≠ (z.heap.push (nwS w)).objs.size := by rw [Heap.size_push]; exact Nat.ne_of_lt (Nat.lt_succ_of_lt lt)
  have nS : z.heap.objs.size ∉ [(z.heap.push (nwS w)).objs.size, l] := by
    rw [Heap.size_push]
    simp only [List.mem_cons, List.not_mem_nil, or_false, not_or]
    exact ⟨Nat.ne_of_lt (Nat.lt_succ_self _), Nat.ne_of_gt lt⟩
  refine set_update_ints (Walks.list (by simp [hh]) _ l nI items).toS z.heap.objs.size nS ns sz room (fun i v hv => ?_) (items.size - 0) 0 _ (by omega) (by omega) ⟨⟨_, Heap.get?_push_size _ rfl, rfl, rfl⟩, hl2.push _⟩ ?_ fun y m mv hm R => ?_
  · have li : i < ns.length := by rw [← sz]; exact (Array.getElem?_eq_some_iff.mp hv).1
    obtain ⟨t, e⟩ := hin.int_at i v (by rw [Array.getElem?_toList]; exact hv)
    exact ⟨ns[i], t, List.getElem?_eq_getElem li, by rw [e, List.getD_eq_getElem?_getD, List.getElem?_eq_getElem li]; rfl⟩
  · exact ⟨0, Nat.le_refl 0, setR_new_at (Heap.get?_push_of_some _ atS)⟩
  · obtain ⟨hp, gg, dd, tk, oo⟩ := y
    cases (show gg = z.gens from mv.gens)
    cases (show dd = z.drawn from mv.drawn)
    cases (show oo = z.os from mv.os)
    refine wpAny_pure (wpAny_pure (show Filled w z ns _ _ from ⟨rfl, hp, tk, m, rfl, R, by omega, fun b o e => ?_⟩))
    have lb := Heap.lt_size e
    refine mv.heap b o ?_ (Heap.get?_push_of_some _ (Heap.get?_push_of_some _ e))
    rw [Heap.size_push]
    simp only [List.mem_cons, List.not_mem_nil, or_false, not_or]
    exact ⟨Nat.ne_of_lt lb, Nat.ne_of_lt (Nat.lt_succ_of_lt lb)⟩
/-- set(xs) -/
theorem set_lst {l : Addr} {items : Array Value} (ns : List Int) {Q : Value → Shared → Prop} (hh : A.handled = none) (hl : z.heap.IsList l items) (hin : IntsAre items.toList ns) (room : ns.length + 1 < scanBound)
    (k : ∀ hp tk m, SetR w hp z.heap.objs.size (fun j => decide (j ∈ ns)) m → m ≤ ns.length → (∀ b o, z.heap.get? b = some o → hp.get? b = some o) → Q (.ref z.heap.objs.size) { z with heap := hp, toks := tk }) :
    wpAny (model P w) A (call (.type "set") [.ref l]) Q E z := by
  obtain ⟨mc, mt, hmro⟩ := F.called_set.mro
  have g1 := F.called_set.made
  have g2 := F.called_set.sub
  have g3 := F.called_set.notType
  have g4 := F.called_set.canCreate
  have g5 := F.typeCall_set_1 (.ref l)
  refine wpAny_call (codeAny_of_tree (show wpAny _ _ (callAny (.type "set") _) _ _ _ from wpAny_pure ⟨Code.quiet_builtin _ (by decide +kernel), codeAny_builtin F.entry_type_call ?_⟩))
  rw [Around.under_plain (weight_type_call_type "set" [.ref l] []) rfl]
  repeat any_goals first | assumption | wp_step
  refine codeAny_mono (code_set_led1 (.ref l) (E := E) (Q₁ := fun o y => o = .ref z.heap.objs.size ∧ y = { z with heap := z.heap.push (nwS w) }) ⟨rfl, rfl⟩) fun r y hr => ?_
  rcases r with e | fl
  · exact hr
  cases fl with
  | ret o =>
    obtain ⟨rfl, rfl⟩ := hr
    have hS : (z.heap.push (nwS w)).get? z.heap.objs.size = some (nwS w) := Heap.get?_push_size _ rfl
    have hT : Shared.TypeIs { z with heap := z.heap.push (nwS w) } (.ref z.heap.objs.size) "set" := ⟨_, hS, rfl⟩
    have i1 := F.called_set.init.lookup
    have i2 := F.called_set.init.bind (.ref z.heap.objs.size)
    repeat any_goals first | assumption | wp_step
    refine codeAny_mono (set_fill ns hh hl hin room (E := E)) fun r2 y2 hr2 => ?_
    rcases r2 with e | fl2
    · exact hr2
    cases fl2 with
    | ret v =>
      obtain ⟨rfl, hp, tk, m, rfl, R, mn, kp⟩ := hr2
      repeat any_goals first | assumption | wp_step
      exact k hp tk m R mn kp
    | _ => exact False.elim hr2
  | _ => exact False.elim hr
end
def rSetOf (K : PySem.W.Frag) (w : World) : List V → Hp → VK → Prop := fun vs H Q => ∃ (l : Addr) (ns : List Int), vs = [.ref l] ∧ SqL K H l (ns.map V.int) ∧ ns.length ≤ 4000 ∧
  ∀ p m, m ≤ ns.length → H p = none → Q (.ref p) (upd H p (SetO w p (fun j => decide (j ∈ ns)) m))
theorem c_set {X : Cx} (hc : X.calm = true) : CallR X (.type "set") (rSetOf X.K X.w) := by
  intro pins s σ H vs us Q I r h
  obtain ⟨l, ns, rfl, hq, hb, q⟩ := h
  obtain ⟨its, rv, pl, _⟩ := I.list hq
  rw [Vals.ref1 r]
  have hl : its.length = ns.length := by rw [← rv.length, List.length_map]
  refine set_lst ns (I.ok.hd hc) pl.isList (by simpa using rv.ints) (by unfold scanBound; omega) fun hp tk m R mn kp => ?_
  have hn : H s.heap.objs.size = none := I.hok.fresh (Nat.le_refl _)
  exact ⟨.ref s.heap.objs.size, _, I.laid (t' := tk) kp (Nat.le_refl _) (setO_new R), rfl, q _ m mn hn⟩
section
variable {σ : Stt} {H : Hp} {Q : VK} {K : PySem.W.Frag} {w : World} {a : Addr} {ns : List Int}
theorem x_set (h : SqL K H a (ns.map V.int)) (hn : ns.length ≤ 4000) (k : ∀ p m, m ≤ ns.length → H p = none → Q (.ref p) (upd H p (SetO w p (fun j => decide (j ∈ ns)) m))) : rSetOf K w [.ref a] H Q := ⟨a, ns, rfl, h, hn, k⟩
/-- sorted of the set just made -/
theorem x_srtSet {m : Nat} (h : H a = some (SetO w a (fun j => decide (j ∈ ns)) m)) (hm : m < 64) (k : ∀ (ms : List Int) p, ms.Pairwise (· < ·) → (∀ x, x ∈ ms ↔ x ∈ ns) → H p = none → Q (.ref p) (upd H p (.lst (ms.map V.int)))) : rSortedSet w [.ref a] H Q :=
  ⟨a, _, m, rfl, h, hm, fun ms p s1 s2 _ hp => k ms p s1 (fun x => by rw [s2 x]; simp) hp⟩
theorem srt_unique {a b : List Int} (ha : a.Pairwise (· < ·)) (hb : b.Pairwise (· < ·)) (h : ∀ x, x ∈ a ↔ x ∈ b) : a = b := by
  have perm : a.Perm b := (List.perm_ext_iff_of_nodup (ha.imp fun h => by omega) (hb.imp fun h => by omega)).mpr h
  exact perm.eq_of_pairwise (le := (· ≤ ·)) (fun x y _ _ => Int.le_antisymm) (ha.imp Int.le_of_lt) (hb.imp Int.le_of_lt)
end

/-! ### C.m(x, ..): a def read off its class -/
structure CmX (G : En) (CX : CXT) (k : Nat) (x m : Str) (sp : Sp) (dvs : List V) : Prop where
  ex : ∃ (C f : Addr) (mc : Value) (fd : FuncData) (ps : List Str) (ds : List Value), G.mg x = some (.ref C) ∧ ClX.CRead G.K C mc ∧ ClX.CVal G.K C mc m (.ref f) (.ref f) ∧ PySem.W.keepIn G.K (.ref f) = true ∧ FnG G CX k f fd ps sp ∧ Binds G.K fd ps ds ∧ Vals dvs ds
abbrev CmG (G : En) (k : Nat) (x m : Str) (sp : Sp) (dvs : List V) : Prop := CmX G CX0 k x m sp dvs
def tCmQ (G : En) (j : Nat) (x m : Str) (t : TA) : TE := fun σ H Q => ∃ k sp dvs, CmG G k x m sp dvs ∧ k ≤ j ∧ t σ H fun vs H1 => sp (vs ++ dvs) H1 Q E0
section
variable {X : Cx} {e : Expr} {es : List Expr} {m x : Str} {p pos apos : Pos} {t : TA} {j : Nat}
theorem e_cm {pl : Sem Bool} (hr : Room j X.A) (hg : Gl X x) (ha : PA X (e :: es) t) (hdb : (x == ("__debug__" : Str)) = false := by decide)
    (hst : starEach (e :: es) X.env = (false, eval e X.env) :: starEach es X.env := by rfl) (hpl : (backTo pos (starEach es X.env)).any (·.1) = false := by rfl)
    (ht : eval (.Call (.Attribute (.Name x p) m apos) (e :: es) [] pos) X.env = (do
      let ov ← eval (.Name x p) X.env
      standAt apos.atName
      let (f, first) ← holding [ov] (getMethod ov m pl)
      callWith pos f first (backTo pos (starEach (e :: es) X.env)) (backToKw pos (keywordEach [] X.env))) := by rfl) :
    PE X (.Call (.Attribute (.Name x p) m apos) (e :: es) [] pos) (tCmQ (enOf X) j x m t) := by
  refine ⟨fun pins s σ H Q I h => ?_⟩
  obtain ⟨k, sp, dvs, c, hk, q⟩ := h
  obtain ⟨C, f, mc, fd, ps, ds, hm, rd, cv, kp, F, hb, hd⟩ := c.ex
  refine PySem.W.methodCall_KW (pl := pl) (thn ((e_cls (pos := p) hg hm hdb).run pins s σ H (fun v H1 => v = .ref C ∧ H1 = H) I ⟨rfl, rfl⟩) fun u s1 ⟨v, H1, I1, rx, ev, eH⟩ => ?_) ht
  subst ev eH
  obtain rfl : u = Value.ref C := rx
  refine PySem.W.method_cls I1.kIn rd.ga (ClX.getcval_ok I1 rd cv fun s2 I2 => ?_)
  refine PySem.W.callWith_K (first := []) (h₀ := X.base) I.ok.mod.kin kp (thn (ha.run pos pins s2 σ _ _ I2 q) fun us s3 ⟨vs, H2, I3, r, q2⟩ => ⟨I3.kIn, ?_⟩) hst hpl
  exact run_fn (us := us) (vs := vs) F (hr.mono hk) hb hd pass0 I3 r q2
end
/-! ### facts of the top, and a Bool of one's own -/
def obE (fa : List He.Fa) (fn : List He.DefD) (ex : PySem.W.Frag → Bool) (K : PySem.W.Frag) : He.AlD × Bool := (He.obsD fa fn K, ex K)
def obEG (n : Nat) (fa : List He.Fa) (fn : List He.DefD) (ex : PySem.W.Frag → Bool) (g : Addr → Option Obj) : He.AlD × Bool := obE fa fn ex (He.frG g (He.asD g n ++ [cStatics]))
def hookE (n : Nat) (fa : List He.Fa) (fn : List He.DefD) (ex : PySem.W.Frag → Bool) : PySem.W.Hook where
  α := He.AlD × Bool
  obs := fun s => obEG n fa fn ex s.heap.get?
  val := fun _ => (He.valD fn, true)
  says := fun _ h => ∃ K : PySem.W.Frag, K.In h ∧ He.SaysD fa fn K ∧ ex K = true
  of := fun _ _ e => ⟨_, He.frG_in, congrArg Prod.fst e, congrArg Prod.snd e⟩
  keeps := fun _ _ _ z k => z.elim fun K c => ⟨K, PySem.W.Frag.In.keeps c.1 k, c.2⟩
theorem obEG_eq {n : Nat} {fa : List He.Fa} {fn : List He.DefD} {ex : PySem.W.Frag → Bool} {g : Addr → Option Obj} {s : Shared} (h : ∀ a, g a = s.heap.get? a) : obEG n fa fn ex g = (hookE n fa fn ex).obs s := by
  rw [show g = s.heap.get? from funext h]; rfl
/-- the class x hands out its own def m -/
def cmB (K : PySem.W.Frag) (x m : Str) : Bool := PySem.W.readsIn K (He.ga K x) (.type "type") && (He.eqO (PySem.W.specialIn K (.ref (He.ga K x)) "__getattribute__") (some (some (.builtin "type.__getattribute__"))) &&
  (PySem.W.keepIn K (.ref (He.ma K (He.ga K x) m)) && match PySem.W.findCls K (.ref (He.ga K x)) (.type "type") m with
    | some (.val (.ref a)) => decide (a = He.ma K (He.ga K x) m)
    | _ => false))
structure CmK (K : PySem.W.Frag) (x m : Str) : Prop where
  rd : ClX.CRead K (He.ga K x) (.type "type")
  at_ : ClX.CVal K (He.ga K x) (.type "type") m (.ref (He.ma K (He.ga K x) m)) (.ref (He.ma K (He.ga K x) m))
  kp : PySem.W.keepIn K (.ref (He.ma K (He.ga K x) m)) = true
theorem cmB_ok {K : PySem.W.Frag} {x m : Str} (h : cmB K x m = true) : CmK K x m := by
  unfold cmB at h
  simp only [Bool.and_eq_true] at h
  obtain ⟨h1, h2, h3, h4⟩ := h
  refine ⟨⟨h1, He.eqO_ok h2⟩, ⟨?_, rfl⟩, h3⟩
  split at h4
  · rename_i a e
    rw [e, of_decide_eq_true h4]
  · cases h4

/-! ### dicts: readings with names -/
def DPutG (x y v : V) (H : Hp) (N : Hp → Prop) : Prop := ∃ a H4, x = .ref a ∧ DPut H a y v H4 ∧ N H4
def sDPutQ (td ty tv : TE) : TS := fun D σ H => tv σ H fun v H1 => td σ H1 fun x H2 => ty σ H2 fun y H3 => DPutG x y v H3 (D.nx σ)
def D2bG (a : Addr) (y z : V) (H : Hp) (Q : VK) : Prop := ∃ o, DGet H a y o ∧ Q (o.getD z) H
def D2aG (ty tx : TE) (σ : Stt) (Q : VK) (x : V) (H1 : Hp) : Prop := ∃ a, x = .ref a ∧ IsD H1 a ∧ ty σ H1 fun y H2 => tx σ H2 fun z H3 => D2bG a y z H3 Q
def tDGet2Q (td ty tx : TE) : TE := fun σ H Q => td σ H fun x H1 => D2aG ty tx σ Q x H1
def DInG (n : Bool) (y x : V) (H : Hp) (Q : VK) : Prop := ∃ a o, x = .ref a ∧ DGet H a y o ∧ Q (.bl (if n then !o.isSome else o.isSome)) H
def tDInQ (ty td : TE) : TE := fun σ H Q => ty σ H fun y H1 => td σ H1 fun x H2 => DInG false y x H2 Q
def tDNotInQ (ty td : TE) : TE := fun σ H Q => ty σ H fun y H1 => td σ H1 fun x H2 => DInG true y x H2 Q
def LockG (t : TE) (σ : Stt) (H : Hp) (Q : VK) : Prop := ∃ d u, H d = some u ∧ Mut (some u) ∧ ∀ od, t σ (upd H d (.frz od u)) fun v H' => H' d = some (.frz od u) ∧ Q v (upd H' d u)
def tLockQ (t : TE) : TE := fun σ H Q => LockG t σ H Q
def KeysG (x : V) (H1 : Hp) (R : It → Hp → Prop) : Prop := ∃ d o, x = .ref d ∧ ((∃ kvs, H1 d = some (.frz o (.dK kvs)) ∧ R (Itk d o kvs) H1) ∨ ∃ kvs, H1 d = some (.frz o (.dT kvs)) ∧ R (Itkt d o kvs) H1)
def iKeysQ (td : TE) : TI := fun σ H R => td σ H fun x H1 => KeysG x H1 R
section
variable {X : Cx} {o i e f a value : Expr} {p pos pos' apos cpos : Pos} {td ty tx tv t : TE} {tg : Expr}
theorem s_dput (hu : X.A.units + 1 < cLine) (ho : PE X o td) (hi : PE X i ty) (hv : PE X value tv) (hs : swapsWith value (some (.Subscript o i pos')) pos.line X.env = pure false := by rfl) : PS X (.Assign [.Subscript o i pos'] value pos) (sDPutQ td ty tv) := ps_dput hu ho hi hv hs
theorem e_dget2 (hu : X.A.units + 1 < cLine) (ho : PE X o td) (he : PE X e ty) (hf : PE X f tx) (m : M2 X o "get" apos e f cpos) : PE X (.Call (.Attribute o "get" apos) [e, f] [] cpos) (tDGet2Q td ty tx) := pe_dget2 hu ho he hf m
theorem e_lock (h : PE X e t) : PE X e (tLockQ t) := pe_lock h
theorem i_keysQ (he : PE X e td) : PI X tg e (iKeysQ td) := pi_keys he
theorem op_isBQ : OpR X (compareOp .Is) rIsB := op_isBl
end
section
variable {σ : Stt} {H : Hp} {Q : VK} {K : PySem.W.Frag} {G : En} {td ty tx tv t te : TE} {x y v z : V} {D : Ends} {a b d : Addr} {tl : TA} {j : Nat} {m : Str}
theorem x_sdput (k : tv σ H fun v H1 => td σ H1 fun x H2 => ty σ H2 fun y H3 => DPutG x y v H3 (D.nx σ)) : sDPutQ td ty tv D σ H := k
theorem x_dputT {N : Hp → Prop} {kvs : List (List Key × V)} {ks : List Key} (h : H a = some (.dT kvs)) (hb : H b = some (.tup (ks.map kV))) (hl : kvs.length < 100000) (k : N (upd H a (.dT (putK kvs ks v)))) : DPutG (.ref a) (.ref b) v H N :=
  ⟨a, _, rfl, DPut.t h hb (Nat.lt_of_lt_of_le hl (by decide)), k⟩
theorem x_dputI {N : Hp → Prop} {kvs : List (Key × V)} {i : Int} (h : H a = some (.dK kvs)) (hl : kvs.length < 100000) (k : N (upd H a (.dK (putK kvs (.inl i) v)))) : DPutG (.ref a) (.int i) v H N :=
  ⟨a, _, rfl, DPut.k (k := .inl i) h (Nat.lt_of_lt_of_le hl (by decide)), k⟩
theorem dgT {o : Option V} {kvs : List (List Key × V)} {ks : List Key} (h : Rd H a (.dT kvs)) (hb : H b = some (.tup (ks.map kV))) (e : valV kvs ks = o) : DGet H a (.ref b) o := .inr ⟨kvs, ks, b, h, rfl, hb, e.symm⟩
theorem dgK {o : Option V} {kvs : List (Key × V)} {i : Int} (h : Rd H a (.dK kvs)) (e : valV kvs (.inl i) = o) : DGet H a (.int i) o := .inl ⟨kvs, .inl i, h, rfl, e.symm⟩
theorem x_dgetT {kvs : List (List Key × V)} {ks : List Key} (h : H a = some (.dT kvs)) (hb : H b = some (.tup (ks.map kV))) (e : valV kvs ks = some v) (k : Q v H) : DGetG (.ref a) (.ref b) H Q := ⟨a, v, rfl, dgT (.inl h) hb e, k⟩
theorem x_dgetF {kvs : List (List Key × V)} {ks : List Key} {o : Obj} (h : H a = some (.frz o (.dT kvs))) (hb : H b = some (.tup (ks.map kV))) (e : valV kvs ks = some v) (k : Q v H) : DGetG (.ref a) (.ref b) H Q := ⟨a, v, rfl, dgT (.inr ⟨o, h⟩) hb e, k⟩
theorem x_dgetI {kvs : List (Key × V)} {i : Int} (h : H a = some (.dK kvs)) (e : valV kvs (.inl i) = some v) (k : Q v H) : DGetG (.ref a) (.int i) H Q := ⟨a, v, rfl, dgK (.inl h) e, k⟩
theorem x_dget2 (k : td σ H fun x H1 => D2aG ty tx σ Q x H1) : tDGet2Q td ty tx σ H Q := k
theorem x_d2aT {kvs : List (List Key × V)} (h : H a = some (.dT kvs)) (k : ty σ H fun y H2 => tx σ H2 fun z H3 => D2bG a y z H3 Q) : D2aG ty tx σ Q (.ref a) H := ⟨a, rfl, .inr ⟨kvs, .inl h⟩, k⟩
theorem x_d2aK {kvs : List (Key × V)} (h : H a = some (.dK kvs)) (k : ty σ H fun y H2 => tx σ H2 fun z H3 => D2bG a y z H3 Q) : D2aG ty tx σ Q (.ref a) H := ⟨a, rfl, .inl ⟨kvs, .inl h⟩, k⟩
theorem x_d2bT {o : Option V} {kvs : List (List Key × V)} {ks : List Key} (h : H a = some (.dT kvs)) (hb : H b = some (.tup (ks.map kV))) (e : valV kvs ks = o) (k : Q (o.getD z) H) : D2bG a (.ref b) z H Q := ⟨o, dgT (.inl h) hb e, k⟩
theorem x_lock {u : HO} (d : Addr) (h : H d = some u) (mu : Mut (some u)) (k : ∀ od, t σ (upd H d (.frz od u)) fun v H' => H' d = some (.frz od u) ∧ Q v (upd H' d u)) : tLockQ t σ H Q := ⟨d, u, h, mu, k⟩
theorem unlock_fr {H' : Hp} {u : HO} {od : Obj} (h : H d = some u) (nt : noTup u) (f : Fr F0 (upd H d (.frz od u)) H') : Fr F0 H (upd H' d u) :=
  ⟨fun b o e n => by
    by_cases c : b = d
    · rw [c, h] at e; rw [c, ← e]; exact upd_same
    · exact upd_at (f.keep b o (upd_at e c) n) c, fun b xs e => by
    by_cases c : b = d
    · rw [c, h] at e; cases e; exact nt.elim
    · exact upd_at (f.tup b xs (upd_at e c)) c, fun b e => upd_dom (f.dom b (upd_dom e))⟩
theorem x_keys {R : It → Hp → Prop} {kvs : List (List Key × V)} {o : Obj} (h : H d = some (.frz o (.dT kvs))) (k : R (Itkt d o kvs) H) : KeysG (.ref d) H R := ⟨d, o, rfl, .inr ⟨kvs, h, k⟩⟩
theorem x_ikeys {R : It → Hp → Prop} (k : td σ H fun x H1 => KeysG x H1 R) : iKeysQ td σ H R := k
theorem x_ivals {R : It → Hp → Prop} (k : td σ H fun x H1 => ItvG x H1 R) : iValsTQ td σ H R := k
theorem x_vals {R : It → Hp → Prop} {kvs : List (List Key × V)} {o : Obj} (h : H d = some (.frz o (.dT kvs))) (k : R (ItvT d o kvs) H) : ItvG (.ref d) H R := ⟨d, o, kvs, rfl, h, k⟩
theorem x_isBl {p q : Bool} (k : Q (.bl (decide (p = q))) H) : rIsB (.bl p) (.bl q) H Q := ⟨p, q, rfl, rfl, k⟩
theorem x_bmD {r : V → List V → Hp → VK → Prop} {kvs : List (List Key × V)} (h : H a = some (.dT kvs)) (k : tl σ H fun ys H2 => r (.ref a) ys H2 Q) : BmG K "dict" r tl σ (.ref a) H Q := ⟨.inr (.inr (.inl ⟨rfl, .inr ⟨kvs, h⟩⟩)), k⟩
theorem x_cm {j k : Nat} {x : Str} {sp : Sp} {dvs : List V} (c : CmG G k x m sp dvs) (hk : k ≤ j) (q : tl σ H fun vs H1 => sp (vs ++ dvs) H1 Q E0) : tCmQ G j x m tl σ H Q := ⟨k, sp, dvs, c, hk, q⟩
-- in a list
theorem inV_int (i : Int) : ∀ ns : List Int, inV (.int i) (ns.map V.int) = decide (i ∈ ns)
  | [] => by simp [inV]
  | n :: ns => by
    have ih := inV_int i ns
    unfold inV at ih ⊢
    rw [List.map_cons, List.any_cons, ih]
    have : eqV (V.int n) (V.int i) = decide (i = n) := by
      show decide _ = _
      by_cases h : i = n
      · simp [h]
      · have : ¬ n = i := fun z => h z.symm
        simp [h, this]
    rw [this]
    by_cases h : i = n <;> simp [h]
theorem x_inI {i : Int} {ns : List Int} (h : H a = some (.lst (ns.map V.int))) (k : Q (.bl (decide (i ∈ ns))) H) : rIn K false (.int i) (.ref a) H Q :=
  ⟨a, _, rfl, .inl (SqL.of h), rfl, List.all_eq_true.mpr fun x hx => by obtain ⟨n, _, rfl⟩ := List.mem_map.mp hx; rfl, by rw [if_neg (by simp), inV_int]; exact k⟩
/-! ### walks over a finite iterator that changes nothing -/
theorem lc_it {J : It} {g : TG} {tt : TT} {ws : List Nat} {H1 : Hp} (n : Nat) (Item : Nat → V → Hp → Prop) (Pv : Addr → Nat → Hp → Prop) (h0 : ∀ Dd, H1 Dd = none → Pv Dd 0 (upd H1 Dd (.lst [])))
    (hg : ∀ Dd i H, H1 Dd = none → i < n → Pv Dd i H → J.go i H) (hst : ∀ Dd H, H1 Dd = none → Pv Dd n H → J.stop n H) (hy : ∀ i H x H', J.yld i H x H' → H' = H ∧ Item i x H)
    (hs : ∀ Dd i x H, H1 Dd = none → i < n → Item i x H → Pv Dd i H → g x (wipe σ ws) H fun σ2 H2 => wipe σ2 ws = wipe σ ws ∧ tt σ2 H2 fun b H3 => if b = true then te σ2 H3 fun y H4 => ∃ acc, H4 Dd = some (.lst acc) ∧ acc.length < sizeLine ∧ Pv Dd (i + 1) (upd H4 Dd (.lst (acc ++ [y]))) else Pv Dd (i + 1) H3)
    (hd : ∀ Dd H, H1 Dd = none → Pv Dd n H → Q (.ref Dd) H) : LcG g tt te ws σ Q J H1 := fun Dd hD => by
  refine ⟨fun i m H => m = n - i ∧ i ≤ n ∧ Pv Dd i H, ⟨n, by omega, by omega, h0 Dd hD⟩, ?_⟩
  rintro i m H ⟨rfl, hi, p⟩
  by_cases lt : i < n
  · refine .inr ⟨hg Dd i H hD lt p, Pv Dd (i + 1), fun H' p' => ⟨n - (i + 1), by omega, rfl, lt, p'⟩, fun x H' y => ?_⟩
    obtain ⟨rfl, it⟩ := hy i H x H' y
    exact hs Dd i x _ hD lt it p
  · have e : i = n := by omega
    subst e
    exact .inl ⟨hst Dd H hD p, hd Dd H hD p⟩
/-- test and element only allocate; the element is what vf says, or is like it -/
theorem lc_itP {J : It} {g : TG} {tt : TT} {ws : List Nat} {H1 : Hp} (n : Nat) (Item : Nat → V → Hp → Prop) (bf : Nat → Bool) (Like : Nat → V → Hp → Prop) (hn : n ≤ 100000)
    (hL : ∀ i v H H', Like i v H → Fr F0 H1 H → (∀ b xs, H b = some (.tup xs) → H' b = some (.tup xs)) → Like i v H')
    (hg : ∀ i H, i < n → Fr F0 H1 H → J.go i H) (hst : ∀ H, Fr F0 H1 H → J.stop n H) (hy : ∀ i H x H', J.yld i H x H' → H' = H ∧ Item i x H)
    (hs : ∀ i x H (Kv : V → Hp → Prop) (Kn : Hp → Prop), i < n → Item i x H → Fr F0 H1 H → (bf i = true → ∀ v H', Fr F0 H H' → Like i v H' → Kv v H') → (bf i = false → ∀ H', Fr F0 H H' → Kn H') →
      g x (wipe σ ws) H fun σ2 H2 => wipe σ2 ws = wipe σ ws ∧ tt σ2 H2 fun b H3 => if b = true then te σ2 H3 Kv else Kn H3)
    (hd : ∀ Dd H (xs : List V), H1 Dd = none → Fr F0 H1 H → H Dd = some (.lst xs) → Paired (fun v i => Like i v H) xs ((List.range n).filter bf) → Q (.ref Dd) H) : LcG g tt te ws σ Q J H1 := by
  refine lc_it n Item (fun Dd i H => ∃ xs : List V, Made H1 Dd xs H ∧ Paired (fun v i => Like i v H) xs ((List.range i).filter bf)) (fun Dd hD => ⟨[], ⟨.new hD, upd_same⟩, .nil⟩) (fun Dd i H hD hi p => ?_) (fun Dd H hD p => ?_) hy (fun Dd i x H hD hi it p => ?_) (fun Dd H hD p => ?_)
  · obtain ⟨xs, m, _⟩ := p; exact hg i H hi m.1
  · obtain ⟨xs, m, _⟩ := p; exact hst H m.1
  · obtain ⟨xs, ⟨p1, p2⟩, pr⟩ := p
    have lift : ∀ {H' : Hp} {l : List Nat}, Fr F0 H1 H → (∀ b ys, H b = some (.tup ys) → H' b = some (.tup ys)) → Paired (fun v i => Like i v H) xs l → Paired (fun v i => Like i v H') xs l := fun f k q => Paired.mapP q fun v i z => hL i v _ _ z f k
    have ln : xs.length ≤ i := by rw [Paired.length pr]; exact Nat.le_trans (List.length_filter_le _ _) (by simp)
    refine hs i x H (fun y H4 => ∃ acc, H4 Dd = some (.lst acc) ∧ acc.length < sizeLine ∧ ∃ xs : List V, Made H1 Dd xs (upd H4 Dd (.lst (acc ++ [y]))) ∧ Paired (fun v j => Like j v (upd H4 Dd (.lst (acc ++ [y])))) xs ((List.range (i + 1)).filter bf)) (fun H3 => ∃ xs : List V, Made H1 Dd xs H3 ∧ Paired (fun v j => Like j v H3) xs ((List.range (i + 1)).filter bf)) hi it p1 (fun hb v H' f lk => ?_) (fun hb H' f => ?_)
    · refine ⟨xs, f.at0 p2, Nat.lt_of_le_of_lt ln (Nat.lt_of_lt_of_le hi (sl1000 hn)), xs ++ [v], ⟨(p1.trans f).then_put_new hD, upd_same⟩, ?_⟩
      have kt : ∀ b ys, H' b = some (.tup ys) → upd H' Dd (.lst (xs ++ [v])) b = some (.tup ys) := fun b ys e => upd_at e (fun z => by rw [z, f.at0 p2] at e; cases e)
      rw [List.range_succ, List.filter_append, List.filter_cons_of_pos (by simpa using hb)]
      exact Paired.snoc (lift p1 (fun b ys e => kt b ys (f.tup b ys e)) pr) (hL i v _ _ lk (p1.trans f) kt)
    · refine ⟨xs, ⟨p1.trans f, f.at0 p2⟩, ?_⟩
      rw [List.range_succ, List.filter_append, List.filter_cons_of_neg (by simpa using hb), List.filter_nil, List.append_nil]
      exact lift p1 f.tup pr
  · obtain ⟨xs, m, pr⟩ := p; exact hd Dd H xs hD m.1 m.2 pr
/-- sorted pairs of ints that stand in their order -/
theorem x_srtP {k : V → Int × Int} {xs : List V} (h : H a = some (.lst xs)) (hp : ∀ x ∈ xs, ∃ t, x = V.ref t ∧ H t = some (.tup [.int (k x).1, .int (k x).2])) (so : SrtO.Srtd (ltP k) xs)
    (kk : ∀ p, H p = none → Q (.ref p) (upd H p (.lst xs))) : rSortedPO K [.ref a] H Q := by
  refine ⟨a, xs, k, rfl, SqL.of h, hp, fun ys p s1 s2 hn => ?_⟩
  rw [SrtO.stb_uniq (ltP_swo k) s1 so s2]
  exact kk p hn
end
theorem hu_of {k : Nat} {A : Around} (hr : Room k A) : A.units + 1 < cLine := by have := hr.units; omega

/-! ### lists by functions -/
section
variable {α β : Type} {n i : Nat}
theorem rg_ix (f : Nat → β) (h : i < n) : ((List.range n).map f)[i]? = some (f i) := by
  rw [List.getElem?_map, List.getElem?_range h]; rfl
theorem rg_set (f : Nat → β) (v : β) : ((List.range n).map f).set i v = (List.range n).map fun j => if j = i then v else f j := by
  refine List.ext_getElem? fun k => ?_
  by_cases c : k < n
  · by_cases e : i = k
    · subst e
      rw [List.getElem?_set_self (by simpa using c), rg_ix _ c, if_pos rfl]
    · rw [List.getElem?_set_ne e, rg_ix _ c, rg_ix _ c, if_neg fun z => e z.symm]
  · rw [List.getElem?_eq_none (by simpa using c), List.getElem?_eq_none (by simpa using c)]
theorem rg_set' {f g : Nat → β} {v : β} (h : ∀ j, j < n → g j = if j = i then v else f j) : ((List.range n).map f).set i v = (List.range n).map g := by
  rw [rg_set]
  exact List.map_congr_left fun j hj => (h j (List.mem_range.mp hj)).symm
end
def fset {α : Type} (f : Nat → α) (i : Nat) (v : α) : Nat → α := fun j => if j = i then v else f j
theorem fset_same {α : Type} {f : Nat → α} {i : Nat} {v : α} : fset f i v i = v := if_pos rfl
theorem fset_ne {α : Type} {f : Nat → α} {i j : Nat} {v : α} (h : j ≠ i) : fset f i v j = f j := if_neg h
def fset2 {α : Type} (f : Nat → Nat → α) (i j : Nat) (v : α) : Nat → Nat → α := fun a b => if a = i ∧ b = j then v else f a b
theorem fset2_same {α : Type} {f : Nat → Nat → α} {i j : Nat} {v : α} : fset2 f i j v i j = v := if_pos ⟨rfl, rfl⟩
theorem fset2_ne {α : Type} {f : Nat → Nat → α} {i j a b : Nat} {v : α} (h : ¬ (a = i ∧ b = j)) : fset2 f i j v a b = f a b := if_neg h
/-! ### data that never change -/
mutual
inductive At (H : Hp) : V → PyData → Prop
  | non : At H .non .none
  | bl (b : Bool) : At H (.bl b) (.bool b)
  | int (i : Int) : At H (.int i) (.int i)
  | str (s : Str) : At H (.str s) (.str s)
  | tup {a : Addr} {vs : List V} {ds : List PyData} : H a = some (.tup vs) → AtAll H vs ds → At H (.ref a) (.tuple ds)
inductive AtAll (H : Hp) : List V → List PyData → Prop
  | nil : AtAll H [] []
  | cons {v : V} {vs : List V} {d : PyData} {ds : List PyData} : At H v d → AtAll H vs ds → AtAll H (v :: vs) (d :: ds)
end
mutual
theorem At.keep {H H' : Hp} (k : ∀ b xs, H b = some (.tup xs) → H' b = some (.tup xs)) : ∀ {v : V} {d : PyData}, At H v d → At H' v d
  | _, _, .non => .non
  | _, _, .bl b => .bl b
  | _, _, .int i => .int i
  | _, _, .str s => .str s
  | _, _, .tup h a => .tup (k _ _ h) (AtAll.keep k a)
theorem AtAll.keep {H H' : Hp} (k : ∀ b xs, H b = some (.tup xs) → H' b = some (.tup xs)) : ∀ {vs : List V} {ds : List PyData}, AtAll H vs ds → AtAll H' vs ds
  | _, _, .nil => .nil
  | _, _, .cons h t => .cons (At.keep k h) (AtAll.keep k t)
end
mutual
theorem At.dp {K : PySem.W.Frag} {H : Hp} : ∀ {v : V} {d : PyData}, At H v d → Dp K H v d
  | _, _, .non => .non
  | _, _, .bl b => .bl b
  | _, _, .int i => .int i
  | _, _, .str s => .str s
  | _, _, .tup h a => .tup (SqT.of h) (AtAll.dp a)
theorem AtAll.dp {K : PySem.W.Frag} {H : Hp} : ∀ {vs : List V} {ds : List PyData}, AtAll H vs ds → DpAll K H vs ds
  | _, _, .nil => .nil
  | _, _, .cons h t => .cons (At.dp h) (AtAll.dp t)
end
theorem At.fr {F : Addr → Prop} {H H' : Hp} {v : V} {d : PyData} (h : At H v d) (f : Fr F H H') : At H' v d := h.keep f.tup
theorem AtAll.fr {F : Addr → Prop} {H H' : Hp} {vs : List V} {ds : List PyData} (h : AtAll H vs ds) (f : Fr F H H') : AtAll H' vs ds := h.keep f.tup
theorem AtAll.len {H : Hp} : ∀ {vs : List V} {ds : List PyData}, AtAll H vs ds → vs.length = ds.length
  | _, _, .nil => rfl
  | _, _, .cons _ t => congrArg (· + 1) t.len
theorem AtAll.snoc {H : Hp} {v : V} {d : PyData} (h : At H v d) : ∀ {vs : List V} {ds : List PyData}, AtAll H vs ds → AtAll H (vs ++ [v]) (ds ++ [d])
  | _, _, .nil => .cons h .nil
  | _, _, .cons a t => .cons a (t.snoc h)
theorem AtAll.get {H : Hp} : ∀ {vs : List V} {ds : List PyData} {i : Nat} {v : V}, AtAll H vs ds → vs[i]? = some v → ∃ d, ds[i]? = some d ∧ At H v d
  | _ :: _, _ :: _, 0, _, .cons h _, e => by
    simp only [List.getElem?_cons_zero, Option.some.injEq] at e
    subst e
    exact ⟨_, rfl, h⟩
  | _ :: _, _ :: _, i + 1, _, .cons _ t, e => t.get (i := i) (by simpa using e)
theorem At.tup2 {H : Hp} {v : V} {d e : PyData} (h : At H v (.tuple [d, e])) : ∃ a x y, v = .ref a ∧ H a = some (.tup [x, y]) ∧ At H x d ∧ At H y e := by
  cases h with
  | tup h a =>
    cases a with
    | cons h1 a => cases a with
      | cons h2 a => cases a with
        | nil => exact ⟨_, _, _, rfl, h, h1, h2⟩
theorem At.str_eq {H : Hp} {v : V} {s : Str} (h : At H v (.str s)) : v = .str s := by cases h; rfl
theorem At.int_eq {H : Hp} {v : V} {i : Int} (h : At H v (.int i)) : v = .int i := by cases h; rfl
theorem At.non_eq {H : Hp} {v : V} (h : At H v .none) : v = .non := by cases h; rfl
/-! ### letters -/
abbrev Lt := Str × PyData
def ltD (l : Lt) : PyData := .tuple [.str l.1, l.2]
structure LtOk (l : Lt) : Prop where
  lay : (ltD l).canLay0 = true
  dep : (ltD l).depth ≤ 15
  work : l.1 = "work" → ∃ x e, l.2 = .tuple [.int x, e]
theorem lay_ltD {l : List Lt} (h : ∀ x ∈ l, LtOk x) : PyData.canLayAll0 (l.map ltD) = true := by
  induction l with
  | nil => rfl
  | cons x l ih => rw [List.map_cons, PyData.canLayAll0, (h x List.mem_cons_self).lay, ih fun y hy => h y (List.mem_cons_of_mem _ hy)]; rfl
theorem dep_ltD {l : List Lt} (h : ∀ x ∈ l, LtOk x) : PyData.depthAll (l.map ltD) ≤ 15 := by
  induction l with
  | nil => exact Nat.zero_le _
  | cons x l ih => rw [List.map_cons, PyData.depthAll]; exact Nat.max_le.mpr ⟨(h x List.mem_cons_self).dep, ih fun y hy => h y (List.mem_cons_of_mem _ hy)⟩
theorem shaped_ltD {l : List Lt} (h : ∀ x ∈ l, LtOk x) : SeqAt.shaped (.list (l.map ltD)) = true := by
  unfold SeqAt.shaped
  rw [PyData.canLay0, lay_ltD h]
  refine (Bool.true_and _).trans (decide_eq_true ?_)
  rw [PyData.depth]
  have := dep_ltD h
  omega
section
variable {H : Hp} {Q : VK} {K : PySem.W.Frag} {a b : Addr} {vs : List V} {l : List Lt}
theorem eqv_nilL : ∀ {l : List Lt}, PyData.eqvAll (l.map ltD) [] = decide (l = [])
  | [] => by simp [PyData.eqvAll]
  | x :: l => by simp [PyData.eqvAll]
theorem x_eqRow (ha : H a = some (.lst vs)) (hl : AtAll H vs (l.map ltD)) (ok : ∀ x ∈ l, LtOk x) (hb : H b = some (.lst [])) (k : Q (.bl (decide (l = []))) H) : rEqD K (.ref a) (.ref b) H Q := by
  refine ⟨_, _, .lst (SqL.of ha) hl.dp, .lst (SqL.of hb) .nil, shaped_ltD ok, by decide +kernel, ?_⟩
  rw [PyData.eqv, eqv_nilL]; exact k
theorem x_neRow (ha : H a = some (.lst vs)) (hl : AtAll H vs (l.map ltD)) (ok : ∀ x ∈ l, LtOk x) (hb : H b = some (.lst [])) (k : Q (.bl (!decide (l = []))) H) : rNeD K (.ref a) (.ref b) H Q := by
  refine ⟨_, _, .lst (SqL.of ha) hl.dp, .lst (SqL.of hb) .nil, shaped_ltD ok, by decide +kernel, ?_⟩
  rw [PyData.eqv, eqv_nilL]; exact k
end
/-! ### a dict of pairs -/
def prK (n : Nat) (rws : Nat → Nat → Addr) (m : Nat) : List (List Key × V) := (List.range m).map fun t => ([.inl ((t / n : Nat) : Int), .inl ((t % n : Nat) : Int)], .ref (rws (t / n) (t % n)))
theorem prK_key {n : Nat} (rws : Nat → Nat → Addr) {i j : Nat} (hj : j < n) : ∀ m : Nat, valV (prK n rws m) [.inl (i : Int), .inl (j : Int)] = if i * n + j < m then some (.ref (rws i j)) else none
  | 0 => by simp [prK, valV]
  | m + 1 => by
    have ih := prK_key rws (i := i) hj m
    have e : prK n rws (m + 1) = prK n rws m ++ [([.inl ((m / n : Nat) : Int), .inl ((m % n : Nat) : Int)], .ref (rws (m / n) (m % n)))] := by
      unfold prK; rw [List.range_succ, List.map_append]; rfl
    rw [e]
    unfold valV at ih ⊢
    rw [List.find?_append]
    by_cases c : i * n + j < m
    · rw [if_pos c] at ih
      rw [if_pos (by omega)]
      cases q : (prK n rws m).find? (fun kv => decide (kv.1 = [.inl (i : Int), .inl (j : Int)])) with
      | none => rw [q] at ih; cases ih
      | some p => rw [q] at ih; exact ih
    · rw [if_neg c] at ih
      cases q : (prK n rws m).find? (fun kv => decide (kv.1 = [.inl (i : Int), .inl (j : Int)])) with
      | some p => rw [q] at ih; cases ih
      | none =>
        rw [Option.none_or, List.find?_cons]
        have dm := Nat.div_add_mod m n
        by_cases e2 : i * n + j = m
        · have e3 : m / n = i := by rw [← e2, Nat.mul_comm, Nat.mul_add_div (by omega), Nat.div_eq_of_lt hj, Nat.add_zero]
          have e4 : m % n = j := by rw [← e2, Nat.mul_comm, Nat.mul_add_mod, Nat.mod_eq_of_lt hj]
          rw [e3, e4, if_pos (by omega)]
          simp
        · rw [if_neg (by omega)]
          have : ¬ (m / n = i ∧ m % n = j) := by
            rintro ⟨rfl, rfl⟩
            rw [Nat.mul_comm] at e2
            omega
          have hne : decide (([.inl ((m / n : Nat) : Int), .inl ((m % n : Nat) : Int)] : List Key) = [.inl (i : Int), .inl (j : Int)]) = false := by
            refine decide_eq_false fun z => this ?_
            simp only [List.cons.injEq, Sum.inl.injEq, and_true] at z
            omega
          simp only [hne]
          simp
theorem prK_put {n : Nat} {rws : Nat → Nat → Addr} {i j : Nat} (hj : j < n) : putK (prK n rws (i * n + j)) [.inl (i : Int), .inl (j : Int)] (.ref (rws i j)) = prK n rws (i * n + j + 1) := by
  have h := prK_key rws (i := i) hj (i * n + j)
  rw [if_neg (by omega)] at h
  rw [putK_new _ h]
  have e3 : (i * n + j) / n = i := by rw [Nat.mul_comm, Nat.mul_add_div (by omega), Nat.div_eq_of_lt hj, Nat.add_zero]
  have e4 : (i * n + j) % n = j := by rw [Nat.mul_comm, Nat.mul_add_mod, Nat.mod_eq_of_lt hj]
  unfold prK
  rw [List.range_succ, List.map_append, List.map_singleton, e3, e4]
theorem prK_len {n m : Nat} {rws : Nat → Nat → Addr} : (prK n rws m).length = m := by simp [prK]
def natV (i : Nat) : V := .int (i : Int)
theorem gD {α : Type} {xs : List α} {i : Nat} {x d : α} (h : xs[i]? = some x) : xs.getD i d = x := by rw [List.getD_eq_getElem?_getD, h]; rfl
theorem x_dnew {σ : Stt} {H : Hp} {Q : VK} (k : ∀ p, H p = none → Q (.ref p) (upd H p (.dT []))) : tDNewT σ H Q := k
theorem Fr.backx {H H' : Hp} {x b : Addr} {o : HO} (f : Fr (fun b => b = x) H H') (hx : H' x = some o) (hb : H' b = none) : H b = none := f.back (fun z => by rw [z, hx] at hb; cases hb) hb

/-! ### a net: what it holds, where -/
structure NS (X : Type) where
  up : Nat → Bool
  pu : Nat → Int
  rw : Nat → Nat → List Lt
  x : X
def netMeths : List Str := (["look_hand", "look_way", "put", "mark", "after_rest", "after_work", "after_control", "before_work", "send", "rest", "come", "awake", "purse", "on_way", "loads"] : List Str) ++ (["ways", "letters", "quiet", "leave", "told", "missing", "tree", "pass_on", "token", "colour", "more_sent", "look_home", "share", "shares_on", "see"] : List Str) ++ (["begin", "is_seen", "picture", "total", "ask", "answer", "add_up", "round_sums", "unanswered"] : List Str)
structure NL (X : Type) where
  n : Nat
  C : Addr
  dx : Addr
  root : Addr
  lu : Addr
  lp : Addr
  dr : Addr
  rws : Nat → Nat → Addr
  xf : X → List (Str × V)
  xc : X → List (Addr × HO)
  xk : X → Hp → Prop
  nt : ∀ x p, p ∈ xc x → noTup p.2
  nm : ∀ x m, m ∈ netMeths → (xf x).lookup m = none
  kp : ∀ x H H', xk x H → (∀ b xs, H b = some (.tup xs) → H' b = some (.tup xs)) → xk x H'
section
variable {X : Type}
/-- all addresses of its own -/
def NM (L : NL X) (S : NS X) : Addr → Prop := fun b => b = L.root ∨ b = L.lu ∨ b = L.lp ∨ b = L.dr ∨ (∃ i j, i < L.n ∧ j < L.n ∧ b = L.rws i j) ∨ ∃ p ∈ L.xc S.x, b = p.1
abbrev NL.fs (L : NL X) (x : X) : List (Str × V) := ("many", .int L.n) :: ("up", .ref L.lu) :: ("purses", .ref L.lp) :: ("rows", .ref L.dr) :: L.xf x
theorem NL.look {L : NL X} {x : X} {m : Str} (h : (netMeths.contains m && !(["many", "up", "purses", "rows"] : List Str).contains m) = true) : (L.fs x).lookup m = none := by
  simp only [Bool.and_eq_true, List.contains_eq_mem, decide_eq_true_eq, Bool.not_eq_true', decide_eq_false_iff_not] at h
  obtain ⟨h1, h2⟩ := h
  have e := L.nm x m h1
  simp only [List.mem_cons, List.not_mem_nil, or_false, not_or] at h2
  obtain ⟨n1, n2, n3, n4⟩ := h2
  have b : ∀ {a : Str}, m ≠ a → (m == a) = false := fun h => beq_eq_false_iff_ne.mpr h
  simp only [NL.fs, List.lookup, b n1, b n2, b n3, b n4]
  exact e
structure NetNe (L : NL X) (S : NS X) : Prop where
  a1 : L.root ≠ L.lu
  a2 : L.root ≠ L.lp
  a3 : L.root ≠ L.dr
  a4 : ∀ i j, i < L.n → j < L.n → L.rws i j ≠ L.root
  b2 : L.lu ≠ L.lp
  b3 : L.lu ≠ L.dr
  b4 : ∀ i j, i < L.n → j < L.n → L.rws i j ≠ L.lu
  c3 : L.lp ≠ L.dr
  c4 : ∀ i j, i < L.n → j < L.n → L.rws i j ≠ L.lp
  d4 : ∀ i j, i < L.n → j < L.n → L.rws i j ≠ L.dr
  inj : ∀ i j k l, i < L.n → j < L.n → k < L.n → l < L.n → L.rws i j = L.rws k l → i = k ∧ j = l
  x1 : ∀ p ∈ L.xc S.x, p.1 ≠ L.root ∧ p.1 ≠ L.lu ∧ p.1 ≠ L.lp ∧ p.1 ≠ L.dr
  x2 : ∀ p ∈ L.xc S.x, ∀ i j, i < L.n → j < L.n → L.rws i j ≠ p.1
structure NetAt (H : Hp) (L : NL X) (S : NS X) : Prop where
  rt : H L.root = some (.ins L.C L.dx (L.fs S.x))
  up : H L.lu = some (.lst ((List.range L.n).map fun i => V.bl (S.up i)))
  pu : H L.lp = some (.lst ((List.range L.n).map fun i => V.int (S.pu i)))
  dr : H L.dr = some (.dT (prK L.n L.rws (L.n * L.n)))
  row : ∀ i j, i < L.n → j < L.n → ∃ vs, H (L.rws i j) = some (.lst vs) ∧ AtAll H vs ((S.rw i j).map ltD)
  xc : ∀ p ∈ L.xc S.x, H p.1 = some p.2
  xk : L.xk S.x H
  ok : ∀ i j, i < L.n → j < L.n → ∀ l ∈ S.rw i j, LtOk l
  ne : NetNe L S
theorem NM.rt (L : NL X) (S : NS X) : NM L S L.root := .inl rfl
theorem NM.lu (L : NL X) (S : NS X) : NM L S L.lu := .inr (.inl rfl)
theorem NM.lp (L : NL X) (S : NS X) : NM L S L.lp := .inr (.inr (.inl rfl))
theorem NM.dr (L : NL X) (S : NS X) : NM L S L.dr := .inr (.inr (.inr (.inl rfl)))
theorem NM.row {L : NL X} {S : NS X} {i j : Nat} (hi : i < L.n) (hj : j < L.n) : NM L S (L.rws i j) := .inr (.inr (.inr (.inr (.inl ⟨i, j, hi, hj, rfl⟩))))
theorem NM.xc {L : NL X} {S : NS X} {p : Addr × HO} (h : p ∈ L.xc S.x) : NM L S p.1 := .inr (.inr (.inr (.inr (.inr ⟨p, h, rfl⟩))))
theorem NetAt.fr {F : Addr → Prop} {H H' : Hp} {L : NL X} {S : NS X} (h : NetAt H L S) (f : Fr F H H') (n : ∀ b, NM L S b → ¬ F b) : NetAt H' L S where
  rt := f.keep _ _ h.rt (n _ (.rt L S))
  up := f.keep _ _ h.up (n _ (.lu L S))
  pu := f.keep _ _ h.pu (n _ (.lp L S))
  dr := f.keep _ _ h.dr (n _ (.dr L S))
  row := fun i j hi hj => by
    obtain ⟨vs, h1, h2⟩ := h.row i j hi hj
    exact ⟨vs, f.keep _ _ h1 (n _ (.row hi hj)), h2.fr f⟩
  xc := fun p hp => f.keep _ _ (h.xc p hp) (n _ (.xc hp))
  xk := L.kp _ _ _ h.xk f.tup
  ok := h.ok
  ne := h.ne
theorem NetAt.fr0 {H H' : Hp} {L : NL X} {S : NS X} (h : NetAt H L S) (f : Fr F0 H H') : NetAt H' L S := h.fr f fun _ _ z => z
theorem NetAt.here {H : Hp} {L : NL X} {S : NS X} (h : NetAt H L S) {b : Addr} (m : NM L S b) : ∃ o, H b = some o ∧ noTup o := by
  rcases m with rfl | rfl | rfl | rfl | ⟨i, j, hi, hj, rfl⟩ | ⟨p, hp, rfl⟩
  · exact ⟨_, h.rt, trivial⟩
  · exact ⟨_, h.up, trivial⟩
  · exact ⟨_, h.pu, trivial⟩
  · exact ⟨_, h.dr, trivial⟩
  · obtain ⟨vs, h1, _⟩ := h.row i j hi hj; exact ⟨_, h1, trivial⟩
  · exact ⟨_, h.xc p hp, L.nt _ p hp⟩
theorem NetAt.new {H : Hp} {L : NL X} {S : NS X} (h : NetAt H L S) {b : Addr} (hb : H b = none) : ¬ NM L S b := fun m => by
  obtain ⟨o, e, _⟩ := h.here m
  rw [hb] at e; cases e
/-- a step of the net: only its own addresses are written, what it gains is new -/
structure Stp (L : NL X) (S S' : NS X) (H H' : Hp) : Prop where
  fr : Fr (NM L S) H H'
  gr : ∀ b, NM L S' b → NM L S b ∨ H b = none
theorem Stp.refl (L : NL X) (S : NS X) (H : Hp) : Stp L S S H H := ⟨.refl H, fun _ h => .inl h⟩
theorem Stp.of {L : NL X} {S : NS X} {H H' : Hp} (f : Fr F0 H H') : Stp L S S H H' := ⟨f.any, fun _ h => .inl h⟩
theorem Stp.same {L : NL X} {S S' : NS X} {H H' : Hp} (f : Fr (NM L S) H H') (e : S'.x = S.x) : Stp L S S' H H' := ⟨f, fun b h => .inl (by unfold NM at h ⊢; rw [e] at h; exact h)⟩
theorem Stp.trans {L : NL X} {S S1 S2 : NS X} {H H1 H2 : Hp} (a : Stp L S S1 H H1) (b : Stp L S1 S2 H1 H2) : Stp L S S2 H H2 :=
  ⟨a.fr.trans' b.fr a.gr, fun c h => by
    rcases b.gr c h with z | z
    · exact a.gr c z
    · exact .inr (a.fr.dom c z)⟩
theorem Stp.alloc {L : NL X} {S S1 : NS X} {H H1 H2 : Hp} (a : Stp L S S1 H H1) (f : Fr F0 H1 H2) : Stp L S S1 H H2 := a.trans (.of f)
/-- what is no part of the net stays so, and stays as it is -/
theorem Stp.out {L : NL X} {S S' : NS X} {H H' : Hp} {b : Addr} {o : HO} (s : Stp L S S' H H') (e : H b = some o) (n : ¬ NM L S b) : ¬ NM L S' b := fun m => by
  rcases s.gr b m with z | z
  · exact n z
  · rw [e] at z; cases z
/-! ### steps of the abstract net -/
def NS.setUp (S : NS X) (i : Nat) (b : Bool) : NS X := { S with up := fset S.up i b }
def NS.setPu (S : NS X) (i : Nat) (v : Int) : NS X := { S with pu := fset S.pu i v }
def NS.setRow (S : NS X) (i j : Nat) (r : List Lt) : NS X := { S with rw := fset2 S.rw i j r }
def NS.put (S : NS X) (i j : Nat) (l : Lt) : NS X := S.setRow i j (S.rw i j ++ [l])
theorem NetAt.setUp {H : Hp} {L : NL X} {S : NS X} (h : NetAt H L S) (i : Nat) (b : Bool) : NetAt (upd H L.lu (.lst ((List.range L.n).map fun j => V.bl (fset S.up i b j)))) L (S.setUp i b) ∧ Stp L S (S.setUp i b) H (upd H L.lu (.lst ((List.range L.n).map fun j => V.bl (fset S.up i b j)))) := by
  have n := h.ne
  have f : Fr (NM L S) H (upd H L.lu (.lst ((List.range L.n).map fun j => V.bl (fset S.up i b j)))) := .put h.up trivial (.lu L S)
  refine ⟨⟨upd_at h.rt n.a1, upd_same, upd_at h.pu n.b2.symm, upd_at h.dr n.b3.symm, fun j k hj hk => ?_, fun p hp => upd_at (h.xc p hp) (n.x1 p hp).2.1, L.kp _ _ _ h.xk f.tup, h.ok, ⟨n.a1, n.a2, n.a3, n.a4, n.b2, n.b3, n.b4, n.c3, n.c4, n.d4, n.inj, n.x1, n.x2⟩⟩, .same f rfl⟩
  obtain ⟨vs, h1, h2⟩ := h.row j k hj hk
  exact ⟨vs, upd_at h1 (n.b4 j k hj hk), h2.fr f⟩
theorem NetAt.setPu {H : Hp} {L : NL X} {S : NS X} (h : NetAt H L S) (i : Nat) (v : Int) : NetAt (upd H L.lp (.lst ((List.range L.n).map fun j => V.int (fset S.pu i v j)))) L (S.setPu i v) ∧ Stp L S (S.setPu i v) H (upd H L.lp (.lst ((List.range L.n).map fun j => V.int (fset S.pu i v j)))) := by
  have n := h.ne
  have f : Fr (NM L S) H (upd H L.lp (.lst ((List.range L.n).map fun j => V.int (fset S.pu i v j)))) := .put h.pu trivial (.lp L S)
  refine ⟨⟨upd_at h.rt n.a2, upd_at h.up n.b2, upd_same, upd_at h.dr n.c3.symm, fun j k hj hk => ?_, fun p hp => upd_at (h.xc p hp) (n.x1 p hp).2.2.1, L.kp _ _ _ h.xk f.tup, h.ok, ⟨n.a1, n.a2, n.a3, n.a4, n.b2, n.b3, n.b4, n.c3, n.c4, n.d4, n.inj, n.x1, n.x2⟩⟩, .same f rfl⟩
  obtain ⟨vs, h1, h2⟩ := h.row j k hj hk
  exact ⟨vs, upd_at h1 (n.c4 j k hj hk), h2.fr f⟩
theorem NetAt.setRow {H : Hp} {L : NL X} {S : NS X} (h : NetAt H L S) {i j : Nat} (hi : i < L.n) (hj : j < L.n) {r : List Lt} {vs : List V} (hr : AtAll H vs (r.map ltD)) (ok : ∀ l ∈ r, LtOk l) :
    NetAt (upd H (L.rws i j) (.lst vs)) L (S.setRow i j r) ∧ Stp L S (S.setRow i j r) H (upd H (L.rws i j) (.lst vs)) := by
  have n := h.ne
  obtain ⟨v0, h0, _⟩ := h.row i j hi hj
  have f : Fr (NM L S) H (upd H (L.rws i j) (.lst vs)) := .put h0 trivial (.row hi hj)
  refine ⟨⟨upd_at h.rt (n.a4 i j hi hj).symm, upd_at h.up (n.b4 i j hi hj).symm, upd_at h.pu (n.c4 i j hi hj).symm, upd_at h.dr (n.d4 i j hi hj).symm, fun k l hk hl => ?_, fun p hp => upd_at (h.xc p hp) (n.x2 p hp i j hi hj).symm, L.kp _ _ _ h.xk f.tup, fun k l hk hl => ?_,
    ⟨n.a1, n.a2, n.a3, n.a4, n.b2, n.b3, n.b4, n.c3, n.c4, n.d4, n.inj, n.x1, n.x2⟩⟩, .same f rfl⟩
  · by_cases c : k = i ∧ l = j
    · obtain ⟨rfl, rfl⟩ := c
      refine ⟨vs, upd_same, ?_⟩
      show AtAll _ vs ((fset2 S.rw k l r k l).map ltD)
      rw [fset2_same]
      exact hr.fr f
    · obtain ⟨ws, h1, h2⟩ := h.row k l hk hl
      refine ⟨ws, upd_at h1 fun z => c (n.inj k l i j hk hl hi hj z), ?_⟩
      show AtAll _ ws ((fset2 S.rw i j r k l).map ltD)
      rw [fset2_ne c]
      exact h2.fr f
  · show ∀ x ∈ fset2 S.rw i j r k l, LtOk x
    by_cases c : k = i ∧ l = j
    · obtain ⟨rfl, rfl⟩ := c
      rw [fset2_same]; exact ok
    · rw [fset2_ne c]; exact h.ok k l hk hl
/-- the row's own list, by the dict -/
theorem NetAt.dget {H : Hp} {L : NL X} {S : NS X} (h : NetAt H L S) {i j : Nat} (hi : i < L.n) (hj : j < L.n) : valV (prK L.n L.rws (L.n * L.n)) [.inl (i : Int), .inl (j : Int)] = some (.ref (L.rws i j)) := by
  rw [prK_key L.rws hj, if_pos]
  have : (i + 1) * L.n ≤ L.n * L.n := Nat.mul_le_mul_right _ hi
  rw [Nat.add_mul] at this
  omega
end

/-! ### C(e, .., k = v, ..) -/
structure MakKX (G : En) (CX : CXT) (k : Nat) (x : Str) (C : Addr) (n : Nat) (ks : List Str) (sp : Sp) : Prop where
  ex : ∃ (f : Addr) (fd : FuncData) (ps : List Str) (g : List Value → List Value → List Value), Mk G.K C f ∧ FnG G CX k f fd ps sp ∧ G.mg x = some (.ref C) ∧ KBn G.K fd ps (n + 1) ks g (fun vs zs => vs ++ zs)
abbrev MakKG (G : En) (k : Nat) (x : Str) (C : Addr) (n : Nat) (ks : List Str) (sp : Sp) : Prop := MakKX G CX0 k x C n ks sp
def MakeGK (C : Addr) (sp : Sp) (vs : List V) (H1 : Hp) (Q : VK) : Prop := ∀ x dx, H1 x = none → H1 dx = none → dx ≠ x →
  sp (.ref x :: vs) (upd (upd H1 dx (.own x)) x (.ins C dx [])) (fun v H2 => v = .non ∧ Q (.ref x) H2) E0
def tMakeKQ (G : En) (j : Nat) (x : Str) (n : Nat) (ks : List Str) (t tk : TA) : TE := fun σ H Q => ∃ k C sp, MakKG G k x C n ks sp ∧ k + 1 ≤ j ∧ t σ H fun vs H1 => tk σ H1 fun zs H2 => vs.length = n ∧ zs.length = ks.length ∧ MakeGK C sp (vs ++ zs) H2 Q
section
variable {X : Cx} {x : Str} {p pos pos' : Pos} {e o : Expr} {es : List Expr} {kws : List Keyword} {t tk : TA} {j n : Nat} {ks : List Str} {f : Str} {ta : TE}
theorem e_makeK (hr : Room j X.A) (hg : Gl X x) (ha : PA X (e :: es) t) (hkw : PK X kws tk) (hall : (backToKw pos (keywordEach kws X.env)).all (·.1.isSome) = true := by rfl) (hks : (backToKw pos (keywordEach kws X.env)).filterMap (·.1) = ks := by rfl)
    (hdb : (x == ("__debug__" : Str)) = false := by decide) (he : starEach (e :: es) X.env = (false, eval e X.env) :: starEach es X.env := by rfl)
    (hpl : ((backTo pos (starEach (e :: es) X.env)).any (·.1) || (backToKw pos (keywordEach kws X.env)).any (·.1.isNone)) = false := by rfl) :
    PE X (.Call (.Name x p) (e :: es) kws pos) (tMakeKQ (enOf X) j x n ks t tk) := by
  refine ⟨fun pins s σ H Q I h => ?_⟩
  obtain ⟨k, C, sp, c, hk, h⟩ := h
  obtain ⟨f, fd, ps, g, M, F, hm, b⟩ := c.ex
  exact (pe_makeN M F (hr.mono hk) hg hm b pass0 ha hkw hall hks hdb he hpl).run pins s σ H Q I h
theorem x_makeK {G : En} {σ : Stt} {H : Hp} {Q : VK} {k : Nat} {C : Addr} {sp : Sp} (c : MakKG G k x C n ks sp) (hk : k + 1 ≤ j) (q : t σ H fun vs H1 => tk σ H1 fun zs H2 => vs.length = n ∧ zs.length = ks.length ∧ MakeGK C sp (vs ++ zs) H2 Q) : tMakeKQ G j x n ks t tk σ H Q := ⟨k, C, sp, c, hk, q⟩
/-! ### a store to a field as one of several targets -/
def gFldQ (K : PySem.W.Frag) (ta : TE) (f : Str) : TG := fun v σ H N => ta σ H fun x H1 => PutG K f x v H1 fun H2 => N σ H2
theorem x_gfld {K : PySem.W.Frag} {v : V} {σ : Stt} {H : Hp} {N : Stt → Hp → Prop} (k : ta σ H fun x H1 => PutG K f x v H1 fun H2 => N σ H2) : gFldQ K ta f v σ H N := k
/-! ### how often in a list -/
def rCnt (K : PySem.W.Frag) : V → List V → Hp → VK → Prop := fun x xs H Q => ∃ (p : Addr) (ys : List V) (y : V), x = .ref p ∧ xs = [y] ∧ SqL K H p ys ∧ flatV y = true ∧ ys.all flatV = true ∧ Q (.int (ys.countP fun z => eqV z y : Nat)) H
theorem countP_eqU {y : V} : ∀ {ys : List V} {us : List Value}, Vals ys us → ys.all flatV = true → us.countP (eqU y) = ys.countP fun z => eqV z y
  | _, _, .nil, _ => rfl
  | z :: ys, u :: us, .cons h t, f => by
    rw [List.all_cons, Bool.and_eq_true] at f
    rw [List.countP_cons, List.countP_cons, countP_eqU t f.2, eqU_of h f.1]
theorem mt_cnt : MtR X "list.count" (rCnt X.K) := by
  intro pins s σ H x xs v us Q I rx rxs h
  obtain ⟨p, ys, y, rfl, rfl, hs, fy, fys, q⟩ := h
  cases rx
  cases rxs with
  | cons ry rt =>
    rename_i uy ut
    cases rt
    obtain ⟨its, rv, ⟨⟨cls, dd, data, sl⟩, n, ho, hc, hdn, hd⟩, hlen⟩ := I.list hs
    simp only at hc hd
    subst hc hd
    refine call_meets PySem.F.slot_list_count ⟨_, ho, rfl⟩ PySem.F.entry_list_count (PySem.F.args_list_count_2 _ _)
      (SeqAt.list_countAt p its.toArray n dd sl uy (eqU y)) ⟨ho, fun u' hu' => mem_eqAt ry fy rv fys u' (by simpa using hu'), ?_⟩
    have ec : its.toArray.toList.countP (eqU y) = ys.countP fun z => eqV z y := countP_eqU rv fys
    refine ⟨.int (ys.countP fun z => eqV z y : Nat), H, I.tok _, ⟨s.toks, ?_⟩, q⟩
    show Value.int ((its.toArray.toList.countP (eqU y) : Nat) : Int) s.toks = Value.int ((ys.countP fun z => eqV z y : Nat) : Int) s.toks
    rw [ec]
end

section
variable {X : Cx} {o : Expr} {f : Str} {pos : Pos} {ta : TE}
theorem pg_fldQ (ho : PE X o ta) : PG X (.Attribute o f pos) (gFldQ X.K ta f) := by
  refine ⟨fun pins s σ H v u Q I r h => ?_⟩
  rw [assign_Attribute]
  refine wpAny_bind (wpAny_holding (thn (ho.run pins s σ H _ I h) fun ov s1 ⟨x, H1, I1, r1, a, C, dx, fs, ex, ea, c, n, l, q⟩ => ?_))
  subst ex
  obtain rfl : ov = Value.ref a := r1
  refine wpAny_bind (wpAny_standAt (wpAny_bind (wpAny_holding (setattr_ok I1 ea c n l r fun s2 I2 => ?_))))
  exact wpAny_release ⟨σ, _, I2, q⟩
theorem e_din {i : Expr} {ty td : TE} (hu : X.A.units + 1 < cLine) (hi : PE X i ty) (ho : PE X o td) (hm : behindInMarks .In o = false := by rfl) : PE X (.Compare i [.In] [o] pos) (tDInQ ty td) := pe_cmp (pc_din hu hi ho) hm
theorem e_dnotin {i : Expr} {ty td : TE} (hu : X.A.units + 1 < cLine) (hi : PE X i ty) (ho : PE X o td) (hm : behindInMarks .NotIn o = false := by rfl) : PE X (.Compare i [.NotIn] [o] pos) (tDNotInQ ty td) := pe_cmp (pc_dnotin hu hi ho) hm
theorem b_din {i : Expr} {ty td : TE} (hu : X.A.units + 1 < cLine) (hi : PE X i ty) (ho : PE X o td) (hm : behindInMarks .In o = false := by rfl) : PT X (.Compare i [.In] [o] pos) (tTestQ (tDInQ ty td)) := pt_cmp (pc_din hu hi ho) hm
theorem b_dnotin {i : Expr} {ty td : TE} (hu : X.A.units + 1 < cLine) (hi : PE X i ty) (ho : PE X o td) (hm : behindInMarks .NotIn o = false := by rfl) : PT X (.Compare i [.NotIn] [o] pos) (tTestQ (tDNotInQ ty td)) := pt_cmp (pc_dnotin hu hi ho) hm
/-! ### len(d), dict(pairs) -/
def rLenD : List V → Hp → VK → Prop := fun xs H Q => ∃ a kvs, xs = [V.ref a] ∧ H a = some (.dK kvs) ∧ Q (.int kvs.length) H
theorem c_lenD : CallR X (.builtin "len") rLenD := call_lenD
def rDictP (K : PySem.W.Frag) : List V → Hp → VK → Prop := fun xs H Q => ∃ (a : Addr) (ps : List Addr) (kvs : List (Key × V)), xs = [.ref a] ∧ SqL K H a (ps.map V.ref) ∧ Paired (fun p kv => SqT K H p [kV kv.1, kv.2]) ps kvs ∧
    ∀ p, H p = none → Q (.ref p) (upd H p (.dK (mergeK [] kvs)))
theorem c_dictP (hc : X.calm = true) : CallR X (.type "dict") (rDictP X.K) := call_dictP hc
end
section
variable {H : Hp} {Q : VK} {K : PySem.W.Frag} {a : Addr} {z : V}
theorem x_lenD {kvs : List (Key × V)} (h : H a = some (.dK kvs)) (k : Q (.int (kvs.length : Int)) H) : rLenD [.ref a] H Q := ⟨a, kvs, rfl, h, k⟩
theorem x_dinK {kvs : List (Key × V)} {i : Int} {o : Option V} (h : H a = some (.dK kvs)) (e : valV kvs (.inl i) = o) (k : Q (.bl o.isSome) H) : DInG false (.int i) (.ref a) H Q := ⟨a, o, rfl, dgK (.inl h) e, k⟩
theorem x_dninK {kvs : List (Key × V)} {i : Int} {o : Option V} (h : H a = some (.dK kvs)) (e : valV kvs (.inl i) = o) (k : Q (.bl (!o.isSome)) H) : DInG true (.int i) (.ref a) H Q := ⟨a, o, rfl, dgK (.inl h) e, k⟩
theorem x_dinT {kvs : List (List Key × V)} {ks : List Key} {b : Addr} {o : Option V} (h : H a = some (.dT kvs)) (hb : H b = some (.tup (ks.map kV))) (e : valV kvs ks = o) (k : Q (.bl o.isSome) H) : DInG false (.ref b) (.ref a) H Q := ⟨a, o, rfl, dgT (.inl h) hb e, k⟩
theorem x_d2bK {o : Option V} {kvs : List (Key × V)} {i : Int} (h : H a = some (.dK kvs)) (e : valV kvs (.inl i) = o) (k : Q (o.getD z) H) : D2bG a (.int i) z H Q := ⟨o, dgK (.inl h) e, k⟩
theorem x_din {σ : Stt} {td ty : TE} (k : ty σ H fun y H1 => td σ H1 fun x H2 => DInG false y x H2 Q) : tDInQ ty td σ H Q := k
theorem x_dnin {σ : Stt} {td ty : TE} (k : ty σ H fun y H1 => td σ H1 fun x H2 => DInG true y x H2 Q) : tDNotInQ ty td σ H Q := k
theorem x_neg {i : Int} (k : Q (.int (-i)) H) : rU (fun i => .int (-i)) (.int i) H Q := ⟨i, rfl, k⟩
theorem x_ixTneg {xs : List V} {v : V} (h : H a = some (.tup xs)) (e : xs.getLast? = some v) (hl : xs.length < 1000) (k : Q v H) : rIxT K (.ref a) (.int (-1)) H Q := by
  refine ⟨a, xs, -1, v, rfl, rfl, SqT.of h, ?_, k⟩
  unfold atI ixN
  rw [List.getLast?_eq_getElem?] at e
  have : xs.length - 1 < xs.length := (List.getElem?_eq_some_iff.mp e).1
  rw [if_neg (by omega), if_pos (by omega)]
  show xs[(_ : Int).toNat]? = some v
  rw [← e]
  congr 1
  omega
theorem x_ixLneg {xs : List V} {v : V} (h : H a = some (.lst xs)) (e : xs.getLast? = some v) (k : Q v H) : rIxL K (.ref a) (.int (-1)) H Q := by
  refine ⟨a, xs, -1, v, rfl, rfl, SqL.of h, ?_, k⟩
  unfold atI ixN
  rw [List.getLast?_eq_getElem?] at e
  have : xs.length - 1 < xs.length := (List.getElem?_eq_some_iff.mp e).1
  rw [if_neg (by omega), if_pos (by omega)]
  show xs[(_ : Int).toNat]? = some v
  rw [← e]
  congr 1
  omega
end
theorem mergeK_app : ∀ (kvs acc : List (Key × V)), (acc ++ kvs).Pairwise (fun a b => a.1 ≠ b.1) → mergeK acc kvs = acc ++ kvs
  | [], acc, _ => by simp [mergeK]
  | kv :: kvs, acc, h => by
    have e : valV acc kv.1 = none := by
      unfold valV
      rw [Option.map_eq_none_iff, List.find?_eq_none]
      intro x hx
      have := (List.pairwise_append.mp h).2.2 x hx kv List.mem_cons_self
      simpa using this
    show mergeK (putK acc kv.1 kv.2) kvs = _
    rw [putK_new _ e, mergeK_app kvs _ (by rw [List.append_assoc]; exact h), List.append_assoc]
    rfl
/-- a dict from numbers, in a list's order -/
def nmK (f : Nat → V) (ks : List Nat) : List (Key × V) := ks.map fun (i : Nat) => (.inl (i : Int), f i)
theorem nmK_val (f : Nat → V) (j : Nat) : ∀ ks : List Nat, valV (nmK f ks) (.inl (j : Int)) = if j ∈ ks then some (f j) else none
  | [] => by simp [nmK, valV]
  | i :: ks => by
    have ih := nmK_val f j ks
    unfold nmK valV at ih ⊢
    rw [List.map_cons, List.find?_cons]
    by_cases e : i = j
    · subst e; simp
    · have hne : decide ((Sum.inl (i : Int) : Key) = Sum.inl (j : Int)) = false := by
        refine decide_eq_false fun z => e ?_
        have := Sum.inl.inj z
        omega
      simp only [hne]
      rw [ih]
      have : j ≠ i := fun z => e z.symm
      simp [this]
theorem nmK_merge (f : Nat → V) {ks : List Nat} (nd : ks.Nodup) : mergeK [] (nmK f ks) = nmK f ks := by
  have := mergeK_app (nmK f ks) [] (by
    rw [List.nil_append]
    unfold nmK
    refine List.pairwise_map.mpr (nd.imp fun {a b} h z => h ?_)
    have := Sum.inl.inj z
    omega)
  rw [this, List.nil_append]

/-! ### a dict and the empty one -/
theorem pairs_none {prog : Program} {w : World} {A : Around} {E : Value → Shared → Prop} {s : Shared} {nm : String} {a b : Addr} {oa ob : Obj} {es : Array DictEntry} {e1 e2 : Nat} {Q : Bool → Shared → Prop} (ha : (a == sysModules) = false) (hb : (b == sysModules) = false)
    (ga : s.heap.get? a = some oa) (da : oa.data = .dict es e1) (gb : s.heap.get? b = some ob) (db : ob.data = .dict #[] e2) (q : Q (decide (es.size = 0)) s) : wpAny (model prog w) A (Builtin.Dict.samePairs nm a b) Q E s := by
  have na : ¬ (a == sysModules) = true := fun z => Bool.false_ne_true (ha.symm.trans z)
  have nb : ¬ (b == sysModules) = true := fun z => Bool.false_ne_true (hb.symm.trans z)
  unfold Builtin.Dict.samePairs Builtin.Dict.showsAll
  rw [if_neg na, if_neg nb]
  refine wpAny_bind (wpAny_pure (wpAny_bind (wpAny_pure (wpAny_bind (wpAny_dictEntries ga da ?_)))))
  dsimp only
  refine wpAny_bind (wpAny_dictEntries gb db ?_)
  by_cases z : es.size = 0
  · rw [decide_eq_true z] at q
    rw [if_neg (by rw [z]; decide)]
    refine wpAny_bind (wpAny_dictEpoch ga da (wpAny_bind ?_))
    rw [Std.Legacy.Range.forIn_eq_forIn_range', z]
    exact wpAny_pure (wpAny_pure q)
  · rw [decide_eq_false z] at q
    rw [if_pos (by simpa using z)]
    exact wpAny_bind (wpAny_rule (wpAny_pure q))
def rEmp (neg : Bool) : R2 := fun x y H Q => ∃ a b, x = .ref a ∧ y = .ref b ∧ ((∃ ks, H a = some (.dK ks) ∧ H b = some (.dK []) ∧ Q (.bl (if neg then !decide (ks = []) else decide (ks = []))) H) ∨
  ∃ ks, H a = some (.dT ks) ∧ H b = some (.dT []) ∧ Q (.bl (if neg then !decide (ks = []) else decide (ks = []))) H)
section
variable {X : Cx}
theorem emp_at {pins : List (Addr × Obj)} {σ : Stt} {H : Hp} {s : Shared} {a : Addr} (I : Inv X pins σ H s) : (∀ ks, H a = some (.dK ks) → (a == sysModules) = false ∧ s.TypeIs (.ref a) "dict" ∧ ∃ o es ep, s.heap.get? a = some o ∧ o.data = .dict es ep ∧ (es.size = 0 ↔ ks = [])) ∧
    ∀ ks, H a = some (.dT ks) → (a == sysModules) = false ∧ s.TypeIs (.ref a) "dict" ∧ ∃ o es ep, s.heap.get? a = some o ∧ o.data = .dict es ep ∧ (es.size = 0 ↔ ks = []) := by
  refine ⟨fun ks e => ?_, fun ks e => ?_⟩
  · obtain ⟨_, z, vs, kv, o, es, ep, h1, h2, h3, _, h5, _⟩ := dk_of I.hok e
    refine ⟨z, (isD_at I (.inl ⟨ks, .inl e⟩)).1, o, es, ep, h1, h3, ?_⟩
    have l1 := kv.length
    have l2 := h5.length
    rw [Array.length_toList] at l2
    rw [← l2.symm, ← l1]
    exact List.length_eq_zero_iff
  · obtain ⟨_, z, xs, kt, o, es, ep, h1, h2, h3, h4, _⟩ := (show ObjOk X.prog X.w H s.heap a (.dT ks) from I.hok a _ e)
    refine ⟨z, (isD_at I (.inr ⟨ks, .inl e⟩)).1, o, es, ep, h1, h3, ?_⟩
    have l1 := Paired.length kt
    have l2 := congrArg List.length h4
    rw [Array.length_toList, List.length_map] at l2
    rw [l2, ← l1]
    exact List.length_eq_zero_iff
theorem emp_run (neg : Bool) (hu : X.A.units < cLine) {pins : List (Addr × Obj)} {σ : Stt} {H : Hp} {s : Shared} {a b : Addr} {Q : VK} {k : Bool} {oa ob : Obj} {es : Array DictEntry} {e1 e2 : Nat} (I : Inv X pins σ H s) (ha : (a == sysModules) = false) (hb : (b == sysModules) = false) (ta : s.TypeIs (.ref a) "dict") (tb : s.TypeIs (.ref b) "dict")
    (ga : s.heap.get? a = some oa) (da : oa.data = .dict es e1) (gb : s.heap.get? b = some ob) (db : ob.data = .dict #[] e2) (ek : k = decide (es.size = 0)) (q : Q (.bl (if neg then !k else k)) H) : wpAny (model X.prog X.w) X.A (compareOp (if neg then .NotEq else .Eq) (.ref a) (.ref b)) (EP X pins σ Q) X.xe s := by
  subst ek
  cases neg with
  | true =>
    refine wpAny_richCompare_same_room (op := .NotEq) ta tb PySem.F.slot_dict_ne (wpAny_call_entry PySem.F.slot_dict_ne ta PySem.F.entry_dict_ne ?_ (PySem.F.args_dict_ne_2 _ _)) hu
    show wpAny _ _ (Builtin.Dict.dictSlotArgs "__ne__" ⟨[.ref a, .ref b], []⟩ >>= _) _ _ s
    refine wpAny_bind ?_
    unfold Builtin.Dict.dictSlotArgs
    refine wpAny_bind (wpAny_notOrdered_dict ta (wpAny_pure (wpAny_bind (wpAny_isInstance (T := "dict") tb PySem.F.sub_dict_dict ?_))))
    simp only [Bool.not_true, Bool.false_eq_true, if_false]
    refine wpAny_bind (wpAny_pure (wpAny_bind (wpAny_pure (wpAny_bind (pairs_none ha hb ga da gb db ?_)))))
    exact wpAny_pure ⟨_, rfl, (fun x => nomatch x), .bl (!decide (es.size = 0)), H, I, (by cases decide (es.size = 0) <;> rfl), q⟩
  | false =>
    refine wpAny_richCompare_same_room (op := .Eq) ta tb PySem.F.slot_dict_eq (wpAny_call_entry PySem.F.slot_dict_eq ta PySem.F.entry_dict_eq ?_ (PySem.F.args_dict_eq_2 _ _)) hu
    show wpAny _ _ (Builtin.Dict.dictSlotArgs "__eq__" ⟨[.ref a, .ref b], []⟩ >>= _) _ _ s
    refine wpAny_bind ?_
    unfold Builtin.Dict.dictSlotArgs
    refine wpAny_bind (wpAny_notOrdered_dict ta (wpAny_pure (wpAny_bind (wpAny_isInstance (T := "dict") tb PySem.F.sub_dict_dict ?_))))
    simp only [Bool.not_true, Bool.false_eq_true, if_false]
    refine wpAny_bind (wpAny_pure (wpAny_bind (wpAny_pure (wpAny_bind (pairs_none ha hb ga da gb db ?_)))))
    exact wpAny_pure ⟨_, rfl, (fun x => nomatch x), .bl (decide (es.size = 0)), H, I, (by cases decide (es.size = 0) <;> rfl), q⟩
theorem op_emp (neg : Bool) (hu : X.A.units + 64 < cLine) : OpR X (compareOp (if neg then .NotEq else .Eq)) (rEmp neg) := by
  intro pins s σ H x y v u Q I rx ry h
  have fin : ∀ {a b : Addr} {ka kb : Prop} [Decidable ka], kb → ((a == sysModules) = false ∧ s.TypeIs (.ref a) "dict" ∧ ∃ o es ep, s.heap.get? a = some o ∧ o.data = .dict es ep ∧ (es.size = 0 ↔ ka)) →
      ((b == sysModules) = false ∧ s.TypeIs (.ref b) "dict" ∧ ∃ o es ep, s.heap.get? b = some o ∧ o.data = .dict es ep ∧ (es.size = 0 ↔ kb)) → Q (.bl (if neg then !decide ka else decide ka)) H → wpAny (model X.prog X.w) X.A (compareOp (if neg then .NotEq else .Eq) (.ref a) (.ref b)) (EP X pins σ Q) X.xe s := by
    intro a b ka kb _ hk ⟨a1, a2, o, es, ep, a3, a4, a5⟩ ⟨b1, b2, o', es', ep', b3, b4, b5⟩ q
    obtain rfl : es' = #[] := Array.eq_empty_of_size_eq_zero (b5.mpr hk)
    exact emp_run neg (by omega) I a1 b1 a2 b2 a3 a4 b3 b4 (decide_eq_decide.mpr a5.symm) q
  obtain ⟨a, b, rfl, rfl, ⟨ks, ha, hb, q⟩ | ⟨ks, ha, hb, q⟩⟩ := h
  · cases rx; cases ry
    exact fin (kb := ([] : List (Key × V)) = []) rfl ((emp_at I).1 ks ha) ((emp_at I).1 [] hb) q
  · cases rx; cases ry
    exact fin (kb := ([] : List (List Key × V)) = []) rfl ((emp_at I).2 ks ha) ((emp_at I).2 [] hb) q
theorem op_neE (hu : X.A.units + 64 < cLine) : OpR X (compareOp .NotEq) (rEmp true) := op_emp true hu
theorem op_eqE (hu : X.A.units + 64 < cLine) : OpR X (compareOp .Eq) (rEmp false) := op_emp false hu
end
section
variable {a b : Addr} {H : Hp} {Q : VK}
theorem x_neEK {ks : List (Key × V)} (ha : H a = some (.dK ks)) (hb : H b = some (.dK [])) (q : Q (.bl (!decide (ks = []))) H) : rEmp true (.ref a) (.ref b) H Q := ⟨a, b, rfl, rfl, .inl ⟨ks, ha, hb, q⟩⟩
theorem x_neET {ks : List (List Key × V)} (ha : H a = some (.dT ks)) (hb : H b = some (.dT [])) (q : Q (.bl (!decide (ks = []))) H) : rEmp true (.ref a) (.ref b) H Q := ⟨a, b, rfl, rfl, .inr ⟨ks, ha, hb, q⟩⟩
theorem x_eqEK {ks : List (Key × V)} (ha : H a = some (.dK ks)) (hb : H b = some (.dK [])) (q : Q (.bl (decide (ks = []))) H) : rEmp false (.ref a) (.ref b) H Q := ⟨a, b, rfl, rfl, .inl ⟨ks, ha, hb, q⟩⟩
theorem x_eqET {ks : List (List Key × V)} (ha : H a = some (.dT ks)) (hb : H b = some (.dT [])) (q : Q (.bl (decide (ks = []))) H) : rEmp false (.ref a) (.ref b) H Q := ⟨a, b, rfl, rfl, .inr ⟨ks, ha, hb, q⟩⟩
theorem x_dnewK {σ : Stt} (k : ∀ p, H p = none → Q (.ref p) (upd H p (.dK []))) : tDNewK σ H Q := k
end

/-! ### exceptions as values -/
def ExT (cls : Value) (d : Option Addr) (a : Addr) : HO := .ext fun h => ∃ (oe : Obj) (vs : Array Value), h.get? a = some oe ∧ Zc cls d oe ∧ oe.data = .fields vs
theorem exT_ok {P : Program} {w : World} {H : Hp} {h : Heap} {a : Addr} {cls : Value} {d : Option Addr} {oe : Obj} {vs : Array Value} (e : h.get? a = some oe) (z : Zc cls d oe) (f : oe.data = .fields vs) : ObjOk P w H h a (ExT cls d a) :=
  ⟨⟨oe, vs, e, z, f⟩, ⟨oe, e⟩, fun _ _ ⟨o, v, q, r⟩ k => ⟨o, v, k o q, r⟩⟩
theorem exT_noTup {cls : Value} {d : Option Addr} {a : Addr} : noTup (ExT cls d a) := trivial
section
variable {X : Cx} {pins : List (Addr × Obj)} {σ : Stt} {H : Hp} {s : Shared} {a : Addr} {cls : Value} {d : Option Addr} {oe : Obj} {vs : Array Value}
/-- an exception's object that is ours is tracked from now on -/
theorem track (I : Inv X pins σ H s) (e : s.heap.get? a = some oe) (z : Zc cls d oe) (f : oe.data = .fields vs) (na : H a = none) (nL : a ≠ X.env.locals) (n0 : X.s_0.heap.get? a = none) (np : ∀ p ∈ X.pn ++ pins, p.1 ≠ a) : Inv X pins σ (upd H a (ExT cls d a)) s := by
  have ne0 : ∀ b o, X.s_0.heap.get? b = some o → b ≠ a := fun b o q y => nomatch ((y ▸ n0).symm.trans (y ▸ q) : (none : Option Obj) = some o)
  have neT : ∀ b (u : HO), H b = some u → b ≠ a := fun b u q y => nomatch (na.symm.trans (y ▸ q) : (none : Option HO) = some u)
  have neC : ∀ x c, X.env.cells.lookup x = some c → c ≠ a := fun x c q y => by
    obtain ⟨v, o, ho, hd⟩ := I.cell x c q
    have := e.symm.trans (y ▸ ho)
    cases this
    rw [f] at hd; cases hd
  obtain ⟨ok, os, bare, base, loc, cell, free, freeC, pin, hok, len⟩ := I
  constructor
  case ok => exact ok
  case os => exact os
  case bare => exact bare
  case loc => exact loc
  case cell => exact cell
  case len => exact len
  case free => exact (upd_ne nL.symm).trans free
  case freeC => exact fun x c q => (upd_ne (neC x c q)).trans (freeC x c q)
  case hok => exact hok.laidN (fun _ _ q => q) na (exT_ok e z f)
  case pin => exact fun p hp => ⟨(pin p hp).1, (upd_ne (np p hp)).trans (pin p hp).2.1, (pin p hp).2.2⟩
  case base =>
    constructor
    case keep => exact base.keep
    case slot => exact base.slot
    case there => exact base.there
    case free => exact fun b o q n x => (upd_ne (ne0 b o q)).trans (base.free b o q n x)
    case tups => exact fun b xs q => (upd_ne (neT b _ (base.tups b xs q))).trans (base.tups b xs q)
    case frzs => exact fun b o u q => (upd_ne (neT b _ (base.frzs b o u q))).trans (base.frzs b o u q)
    case tbls =>
      intro b ps q
      obtain ⟨m, y⟩ := base.tbls b ps q
      exact ⟨m, (upd_ne (neT b _ y)).trans y⟩
end
/-! ### try: clauses with names, behind the suite the exception is a thing of ours -/
def endsT (i : Nat) (a : Addr) (cls : Value) (d : Option Addr) (D : Ends) : Ends where
  nx := fun σ' H' => D.nx (σ'.set i none) (upd H' a (ExT cls d a))
  rt := fun v H' => D.rt v (upd H' a (ExT cls d a))
  bk := fun σ' H' => D.bk (σ'.set i none) (upd H' a (ExT cls d a))
  ct := fun σ' H' => D.ct (σ'.set i none) (upd H' a (ExT cls d a))
abbrev Cls3 := Value × Nat × (Addr → Value → Option Addr → TS)
def wCl (K : PySem.W.Frag) (Wout : WX) (D : Ends) : List Cls3 → WX
  | [] => Wout
  | q :: r => fun cls d σ H => ∃ b, PySem.W.exmOne K cls q.1 = some b ∧ (b = true → ∀ a, H a = none → q.2.2 a cls d (endsT q.2.1 a cls d D) (σ.set q.2.1 (some (.ref a))) H) ∧ (b = false → wCl K Wout D r cls d σ H)
structure HdN (X : Cx) (hd : ExceptHandler) (q : Cls3) : Prop where
  ex : ∃ (x n : Str) (b₀ : Stmt) (suite : List Stmt) (np pos : Pos), hd = .ExceptHandler (some (.Name x np)) (some n) (b₀ :: suite) pos ∧ Names X x q.1 ∧ X.N[q.2.1]? = some n ∧ X.env.kindOf n = some .local ∧
    ∀ (a : Addr) (oe : Obj) (cls : Value) (d : Option Addr) (pn : List (Addr × Obj)), Zc cls d oe → (∃ vs, oe.data = .fields vs) → PSs (X.suite a ((a, oe) :: pn)) (b₀ :: suite) (q.2.2 a cls d)
inductive HdsN (X : Cx) : List ExceptHandler → List Cls3 → Prop
  | nil : HdsN X [] []
  | cons {hd : ExceptHandler} {q : Cls3} {hds : List ExceptHandler} {l : List Cls3} (h : HdN X hd q) (r : HdsN X hds l) : HdsN X (hd :: hds) (q :: l)
section
variable {X : Cx} {pins : List (Addr × Obj)} {σ : Stt} {H : Hp} {s : Shared} {a : Addr} {cls : Value} {d : Option Addr} {oe : Obj} {D : Ends}
/-- the suite's end, where the name goes and the exception is kept -/
theorem suite_end {n : Str} {i : Nat} {pos : Pos} {f : Flow} {oe : Obj} (ok : X.Ok) (z : Zc cls d oe) (hf : ∃ vs, oe.data = .fields vs) (n0 : X.s_0.heap.get? a = none) (np : ∀ p ∈ X.pn ++ pins, p.1 ≠ a) (hN : X.N.Nodup) (hi : X.N[i]? = some n) (hl : X.env.kindOf n = some .local)
    (q : SP (X.suite a ((a, oe) :: (X.pn ++ pins))) [] (endsT i a cls d D) f s) : wpAny (model X.prog X.w) X.A (do bindName X.env n .none; unbindBehindTheSuite X.env n pos) (fun _ s' => SP X pins D f s') X.xe s := by
  have key : ∀ {τ : Stt} {G : Hp}, Inv (X.suite a ((a, oe) :: (X.pn ++ pins))) [] τ G s → Inv X pins τ (upd G a (ExT cls d a)) s := fun {τ G} J => by
    obtain ⟨p1, p2, p3, _⟩ := J.pin (a, oe) (List.mem_append_left _ List.mem_cons_self)
    obtain ⟨vs, f⟩ := hf
    exact track (J.unsuite ok) p1 z f p2 p3 n0 np
  cases f with
  | next =>
    obtain ⟨τ, G, J, w⟩ := q
    exact gone_ok (key J) hN hi hl fun s' J' => ⟨_, _, J', w⟩
  | brk =>
    obtain ⟨τ, G, J, w⟩ := q
    exact gone_ok (key J) hN hi hl fun s' J' => ⟨_, _, J', w⟩
  | cont =>
    obtain ⟨τ, G, J, w⟩ := q
    exact gone_ok (key J) hN hi hl fun s' J' => ⟨_, _, J', w⟩
  | ret u =>
    obtain ⟨v, τ, G, J, r, w⟩ := q
    exact gone_ok (key J) hN hi hl fun s' J' => ⟨v, _, _, J', r, w⟩
/-- what is so when an exception has come down to the handlers -/
structure Down (X : Cx) (pins : List (Addr × Obj)) (σ : Stt) (H : Hp) (a : Addr) (cls : Value) (d : Option Addr) (B : Heap) (sI : Shared) (s : Shared) : Prop where
  inv : Inv X pins σ H sI
  gr : ∀ b o, sI.heap.get? b = some o → b ∉ frs X.stack → B.get? b = some o
  up : sI.heap.UpToSlots s.heap
  fly : HandSPX.FlyingZ B X.stack a (Zc cls d) s.heap
  na : H a = none
  os : s.os = sI.os
  ag : AllBare s.gens
theorem Down.now {B : Heap} {sI : Shared} (h : Down X pins σ H a cls d B sI s) : Inv X pins σ H s := h.inv.landed h.gr h.fly.1 h.up h.os h.ag
theorem Down.obj {B : Heap} {sI : Shared} (h : Down X pins σ H a cls d B sI s) : ∃ oe vs, s.heap.get? a = some oe ∧ Zc cls d oe ∧ oe.data = .fields vs := h.fly.there
theorem Down.notFr {B : Heap} {sI : Shared} (h : Down X pins σ H a cls d B sI s) : a ∉ frs X.stack := fun m => by
  obtain ⟨_, o, q, nf⟩ := h.fly.2.2.1.mem m
  obtain ⟨oe, vs, e, _, f⟩ := h.obj
  have := q.symm.trans e
  cases this
  exact nf vs f
theorem Down.fresh {B : Heap} {sI : Shared} (h : Down X pins σ H a cls d B sI s) : sI.heap.get? a = none := by
  cases q : sI.heap.get? a with
  | none => rfl
  | some o => exact nomatch (h.fly.2.1.symm.trans (h.gr a o q h.notFr) : (none : Option Obj) = some o)
theorem Down.entry {B : Heap} {sI : Shared} (h : Down X pins σ H a cls d B sI s) (hex : X.ex = []) : X.s_0.heap.get? a = none := by
  cases q : X.s_0.heap.get? a with
  | none => rfl
  | some o =>
    obtain ⟨o', e⟩ := h.inv.base.there a o q (by rw [hex]; exact fun z => nomatch z)
    exact nomatch (h.fresh.symm.trans e : (none : Option Obj) = some o')
theorem Down.nopin {B : Heap} {sI : Shared} (h : Down X pins σ H a cls d B sI s) : ∀ p ∈ X.pn ++ pins, p.1 ≠ a := fun p hp z => by
  have := (h.inv.pin p hp).1
  exact nomatch (h.fresh.symm.trans (z ▸ this) : (none : Option Obj) = some p.2)
theorem Down.move {B : Heap} {sI : Shared} (h : Down X pins σ H a cls d B sI s) {h' : Heap} (f : HandSPX.FlyingZ B X.stack a (Zc cls d) h') (u : s.heap.UpToSlots h') : Down X pins σ H a cls d B sI { s with heap := h' } := ⟨h.inv, h.gr, h.up.trans u, f, h.na, h.os, h.ag⟩
theorem Down.suite {B : Heap} {sI : Shared} (hs : X.stack = X.env :: X.outer) (hf : X.env.frame = some X.env.locals) (h : Down X pins σ H a cls d B sI s) {oe : Obj} {vs : Array Value} (e : s.heap.get? a = some oe) (f : oe.data = .fields vs) : Inv (X.suite a ((a, oe) :: (X.pn ++ pins))) [] σ H s := by
  have nf := h.notFr
  rw [hs] at nf
  refine h.now.suite e f h.na (fun z => nf (List.mem_filterMap.mpr ⟨X.env, List.mem_cons_self, hf.trans (congrArg some z.symm)⟩)) fun m => nf ?_
  obtain ⟨v, hv, q⟩ := List.mem_filterMap.mp m
  exact List.mem_filterMap.mpr ⟨v, List.mem_cons_of_mem _ hv, q⟩
/-- a clause's class is looked up -/
theorem name_ok {x : Str} {np : Pos} {c : Value} {Q : Value → Shared → Prop} {oe : Obj} {pn : List (Addr × Obj)} (S : Inv (X.suite a ((a, oe) :: pn)) [] σ H s) (hc : Names X x c) (q : Q c s) {E : Value → Shared → Prop} : wpAny (model X.prog X.w) (X.A.mark (some (.ref a))) (eval (.Name x np) X.env) Q E s := by
  obtain ⟨g, db, m | ⟨m, b, nn⟩⟩ := hc
  · exact ld_glob (X := X.suite a ((a, oe) :: pn)) S g m q db
  · exact ld_blt (X := X.suite a ((a, oe) :: pn)) S g m b q nn db
/-- the handlers, one by one -/
theorem handlers {Wout : WX} (hs : X.stack = X.env :: X.outer) (hf : X.env.frame = some X.env.locals) (hN : X.N.Nodup) (hex : X.ex = []) (tk : Takes X Wout) {B : Heap} {sI : Shared} : ∀ {hds : List ExceptHandler} {l : List Cls3}, HdsN X hds l → ∀ {s : Shared}, Down X pins σ H a cls d B sI s → wCl X.K Wout D l cls d σ H →
    wpAny (model X.prog X.w) X.A (handleBy (.ref a) X.env hds) (SP X pins D) X.xe s
  | _, _, .nil, s, dn, w => by
    refine wpAny_handleBy_nil ?_
    have fl := dn.fly
    obtain ⟨_, _, _, oe, vs, T, oT, ts, he, hz, hd, h1, _⟩ := id fl
    unfold PySem.passOn
    refine wpAny_bind (wpAny_field he hd h1 ?_)
    rw [if_neg (show ¬ ((Value.ref T == Value.none) = true) from by simp)]
    have done : wpAny (model X.prog X.w) X.A (setFlight (.ref a) X.env.frame) (fun _ s4 => wpAny (model X.prog X.w) X.A (throw (.ref a) : Sem Flow) (SP X pins D) X.xe s4) X.xe s := by
      rw [hf]
      have fl' : HandSPX.FlyingZ B (X.env :: X.outer) a (Zc cls d) s.heap := hs ▸ fl
      refine HandSPX.setFlight_upZ fl' fun h4 k4 u4 => wpAny_throw (tk _ _ ⟨a, B, sI, pins, σ, H, cls, d, rfl, dn.inv, dn.gr, dn.up.trans u4, .inr (.inr ?_), dn.na, dn.os, dn.ag, w⟩)
      rw [hs]; exact k4
    first
      | exact wpAny_bind (wpAny_pure (wpAny_bind done))
      | exact wpAny_bind done
  | _, _, .cons h r, s, dn, w => by
    obtain ⟨x, n, b₀, suite, np, pos, rfl, hc, hi, hl, hsu⟩ := h.ex
    obtain ⟨b, eb, yes, no⟩ := w
    obtain ⟨oe, vs, e, z, f⟩ := dn.obj
    have S := dn.suite hs hf e f
    refine wpAny_handleBy_cons (codeAny_handlers_test (name_ok S hc ?_)) (fun q => nomatch q)
    have LT : PySem.W.Looks (model X.prog X.w) s.heap (typeOf (.ref a)) cls := fun A Q E s k q => wpAny_typeOf_ref (k _ _ e) (z.1 ▸ q)
    refine (PySem.W.exm_one (M := model X.prog X.w) dn.now.kIn LT eb).here ?_
    cases b with
    | false => exact handlers hs hf hN hex tk r dn (no rfl)
    | true =>
      refine codeAny_handlers_suite_as (HandSPX.lands_againZ dn.fly fun h4 f4 u4 => ?_)
      have dn4 := dn.move f4 u4
      obtain ⟨oe4, vs4, e4, z4, f4⟩ := dn4.obj
      have S4 := dn4.suite hs hf e4 f4
      refine store_ok (X := X.suite a ((a, oe4) :: (X.pn ++ pins))) (v := .ref a) S4 hN hi (.inl hl) rfl (fun s5 S5 => ?_) (.inr hl)
      refine wpAny_mono ((hsu a oe4 cls d (X.pn ++ pins) z4 ⟨_, f4⟩).run [] s5 _ H _ S5 (yes rfl a dn.na)) (fun fw s6 q6 => ?_) (fun _ _ y => y.elim)
      exact suite_end dn.inv.ok z4 ⟨_, f4⟩ (dn.entry hex) dn.nopin hN hi hl q6
theorem ps_tryN {body : List Stmt} {h₀ : ExceptHandler} {hds : List ExceptHandler} {l : List Cls3} {pos : Pos} {tb : WX → TS} {Wout : WX} (hs : X.stack = X.env :: X.outer) (hf : X.env.frame = some X.env.locals) (hN : X.N.Nodup) (hex : X.ex = []) (tk : Takes X Wout)
    (hb : ∀ (W : WX) (pn : List (Addr × Obj)) (xe : Value → Shared → Prop), Takes (X.tr pn xe) W → PassesOwn (model X.prog X.w) X.A X.env xe → PSs (X.tr pn xe) body (tb W)) (hh : HdsN X (h₀ :: hds) l) : PS X (.Try body (h₀ :: hds) [] [] pos) (fun D σ H => tb (wCl X.K Wout D l) D σ H) := by
  constructor
  intro pins s σ H D I h
  have frm : X.A.frames = some (X.env :: X.outer) := I.ok.frames.trans (congrArg some hs)
  refine wpAny_Try_except (wpAny_mono ((hb (wCl X.K Wout D l) (X.pn ++ pins) _ (fun u s1 x => ?_) PassesOwn.looking).run [] s σ H D (I.toTry _) h) (fun fw s1 q => ?_) (fun e s1 he => he))
  · obtain ⟨a, B, sI, pins', σ', H', cls, d, rfl, J', nb, up, sky, na, os, ag, w⟩ := x
    have J : Inv X pins σ' H' sI := J'.ofTry I.ok
    have sky' : Sky B (X.env :: X.outer) a (Zc cls d) X.env.locals s1.heap := hs ▸ sky
    show wpAny (model X.prog X.w) X.A (noteFrame (.ref a) X.env) _ _ _
    refine Sky.land Zc.steady frm hf sky' fun h3 f3 u3 => ?_
    exact handlers hs hf hN hex tk hh ⟨J, nb, up.trans u3, hs ▸ f3, na, os, ag⟩ w
  · cases fw with
    | next =>
      obtain ⟨σ', H', J, q⟩ := q
      exact wpAny_execs_nil ⟨σ', H', J.ofTry I.ok, q⟩
    | brk =>
      obtain ⟨σ', H', J, q⟩ := q
      exact ⟨σ', H', J.ofTry I.ok, q⟩
    | cont =>
      obtain ⟨σ', H', J, q⟩ := q
      exact ⟨σ', H', J.ofTry I.ok, q⟩
    | ret u =>
      obtain ⟨v, σ', H', J, r, q⟩ := q
      exact ⟨v, σ', H', J.ofTry I.ok, r, q⟩
end

/-! ### defs that raise -/
abbrev CXe (G : En) : CXT := L2.CX G.prog G.w
abbrev CalE (G : En) (k : Nat) (x : Str) (sp : Sp) (dvs : List V) : Prop := CalX G (CXe G) k x sp dvs
abbrev MetE (G : En) (k : Nat) (C : Addr) (m : Str) (sp : Sp) (dvs : List V) : Prop := MetX G (CXe G) k C m sp dvs
abbrev MakE (G : En) (k : Nat) (x : Str) (C : Addr) (sp : Sp) (dvs : List V) : Prop := MakX G (CXe G) k x C sp dvs
abbrev CmE (G : En) (k : Nat) (x m : Str) (sp : Sp) (dvs : List V) : Prop := CmX G (CXe G) k x m sp dvs
abbrev FnE (G : En) (k : Nat) (f : Addr) (fd : FuncData) (ps : List Str) (sp : Sp) : Prop := FnG G (CXe G) k f fd ps sp
def tCallE (G : En) (j : Nat) (x : Str) (t : TA) (W : WX) : TE := fun σ H Q => ∃ k sp dvs, CalE G k x sp dvs ∧ k ≤ j ∧ t σ H fun vs H1 => sp (vs ++ dvs) H1 Q (WE W σ)
def tCallW (G : En) (j : Nat) (x : Str) (t : TA) (W : WX) : TE := fun σ H Q => tCallQ G j x t σ H Q ∨ tCallE G j x t W σ H Q
def MethE (G : En) (j : Nat) (m : Str) (t : TA) (W : WX) (σ : Stt) (x : V) (H1 : Hp) (Q : VK) : Prop := ∃ a C dx fs k sp dvs, x = .ref a ∧ H1 a = some (.ins C dx fs) ∧ fs.lookup m = none ∧
  MetE G k C m sp dvs ∧ k ≤ j ∧ t σ H1 fun vs H2 => sp (.ref a :: (vs ++ dvs)) H2 Q (WE W σ)
def MethW (G : En) (j : Nat) (m : Str) (t : TA) (W : WX) (σ : Stt) (x : V) (H1 : Hp) (Q : VK) : Prop := MethG G j m t σ x H1 Q ∨ MethE G j m t W σ x H1 Q
def tMethW (G : En) (j : Nat) (m : Str) (ta : TE) (t : TA) (W : WX) : TE := fun σ H Q => ta σ H fun x H1 => MethW G j m t W σ x H1 Q
def tCmE (G : En) (j : Nat) (x m : Str) (t : TA) (W : WX) : TE := fun σ H Q => ∃ k sp dvs, CmE G k x m sp dvs ∧ k ≤ j ∧ t σ H fun vs H1 => sp (vs ++ dvs) H1 Q (WE W σ)
def tCmW (G : En) (j : Nat) (x m : Str) (t : TA) (W : WX) : TE := fun σ H Q => tCmQ G j x m t σ H Q ∨ tCmE G j x m t W σ H Q
def MakeE (C : Addr) (sp : Sp) (dvs vs : List V) (E : XK) (H1 : Hp) (Q : VK) : Prop := ∀ x dx, H1 x = none → H1 dx = none → dx ≠ x →
  sp (.ref x :: (vs ++ dvs)) (upd (upd H1 dx (.own x)) x (.ins C dx [])) (fun v H2 => v = .non ∧ Q (.ref x) H2) E
def tMakeE (G : En) (j : Nat) (x : Str) (t : TA) (W : WX) : TE := fun σ H Q => ∃ k C sp dvs, MakE G k x C sp dvs ∧ k + 1 ≤ j ∧ t σ H fun vs H1 => MakeE C sp dvs vs (WE W σ) H1 Q
def tMakeW (G : En) (j : Nat) (x : Str) (t : TA) (W : WX) : TE := fun σ H Q => tMakeQ G j x t σ H Q ∨ tMakeE G j x t W σ H Q
def tTry (K : PySem.W.Frag) (Wout : WX) (l : List Cls3) (tb : WX → TS) : TS := fun D σ H => tb (wCl K Wout D l) D σ H
def tRaise (C : Addr) (W : WX) : TS := fun _ σ H => W (.ref C) none σ H
abbrev W0 : WX := fun _ _ _ _ => False
theorem takesW0 {X : Cx} : Takes X W0 := takes_none5
abbrev WD (E : XK) : WX := fun cls d _ H => E cls d H
section
variable {X : Cx} {k j : Nat} {f C : Addr} {fd : FuncData} {ps : List Str} {ds : List Value} {dvs : List V} {sp : Sp} {W : WX} {x m : Str} {p pos apos : Pos} {e o : Expr} {es : List Expr} {ta : TE} {t : TA}
theorem run_fnE {pins : List (Addr × Obj)} {σ : Stt} {H : Hp} {s : Shared} {Q : VK} {us : List Value} {vs : List V} (F : FnOk X.prog X.w X.K X.mg X.base (L2.CX X.prog X.w) k f fd ps sp) (hr : Room k X.A) (hb : Binds X.K fd ps ds) (hd : Vals dvs ds) (tk : Takes X W)
    (I : Inv X pins σ H s) (r : Vals vs us) (h : sp (vs ++ dvs) H Q (WE W σ)) : wpAny (model X.prog X.w) X.A (call (.ref f) us) (EP X pins σ Q) X.xe s := by
  have rr := r.append hd
  have ll : (us ++ ds).length = ps.length := rr.length.symm.trans (F.len _ _ _ _ h)
  have cd := F.run X.A X.stack s H ⟨us, []⟩ (us ++ ds) (vs ++ dvs) Q (WE W σ) hr I.env0 (hb s us I.kIn ll) rr h
  refine wpAny_call (codeAny_mono cd fun rs s1 q => ?_)
  cases rs with
  | error e => exact passAt tk σ pins H s e s1 I q
  | ok fl => cases fl <;> first | exact I.after q | exact q.elim
theorem run_makeE {pins : List (Addr × Obj)} {σ : Stt} {H : Hp} {s : Shared} {Q : VK} {us : List Value} {vs : List V} (M : Mk X.K C f) (F : FnOk X.prog X.w X.K X.mg X.base (L2.CX X.prog X.w) k f fd ps sp) (hr : Room (k + 1) X.A) (hb : Binds X.K fd ps ds) (hd : Vals dvs ds) (tk : Takes X W)
    (I : Inv X pins σ H s) (r : Vals vs us) (h : MakeE C sp dvs vs (WE W σ) H Q) : wpAny (model X.prog X.w) X.A (call (.ref C) us) (EP X pins σ Q) X.xe s := by
  have lo := Nat.le_refl s.heap.objs.size
  have hq := h (s.heap.objs.size + 1) _ (I.hok.fresh (Nat.le_succ_of_le lo)) (I.hok.fresh lo) (Nat.succ_ne_self _).symm
  have J := Inv.made (C := C) I
  have rr := Paired.cons (show RelV (.ref (s.heap.objs.size + 1)) (.ref (s.heap.objs.size + 1)) from rfl) (r.append hd)
  have ll := rr.length.symm.trans (F.len _ _ _ _ hq)
  have cd := F.run _ X.stack _ _ ⟨Value.ref (s.heap.objs.size + 1) :: us, []⟩ _ _ _ (WE W σ) (hr.make C us []) (J.env0.make C us []) (hb _ (Value.ref (s.heap.objs.size + 1) :: us) J.kIn ll) rr hq
  refine wpAny_call (make_map (f := f) I.kIn M.makes M.init (beq_iff_eq.mp M.fn) (codeAny_mono cd fun rs s1 q => ?_))
  cases rs with
  | error e => exact passAt tk σ pins _ _ e s1 J q
  | ok fl =>
    cases fl with
    | ret u =>
      obtain ⟨v, H', J', rv, ev, q⟩ := J.after q
      subst ev
      exact ⟨rv, V.ref (s.heap.objs.size + 1), H', J', rfl, q⟩
    | next => exact q.elim
    | brk => exact q.elim
    | cont => exact q.elim
theorem e_callW (hr : Room j X.A) (hg : Gl X x) (tk : Takes X W) (ha : PA X (e :: es) t)
    (hdb : (x == ("__debug__" : Str)) = false := by decide) (he : starEach (e :: es) X.env = (false, eval e X.env) :: starEach es X.env := by rfl) (hpl : (backTo pos (starEach es X.env)).any (·.1) = false := by rfl) :
    PE X (.Call (.Name x p) (e :: es) [] pos) (tCallW (enOf X) j x t W) := by
  refine ⟨fun pins s σ H Q I h => ?_⟩
  rcases h with h | ⟨k, sp, dvs, c, hk, h⟩
  · exact (e_call hr hg ha hdb he hpl).run pins s σ H Q I h
  obtain ⟨f, fd, ps, ds, F, hm, kp, b, d⟩ := c.ex
  refine wpAny_Call_Name_kw (ld_glob I hg hm (PySem.W.callWith_K (h₀ := X.base) I.ok.mod.kin kp (thn (ha.run pos pins s σ H _ I h) fun us s1 ⟨vs, H1, J, r, q⟩ => ⟨J.kIn, ?_⟩) he hpl) hdb)
  exact run_fnE F (hr.mono hk) b d tk J r q
theorem e_makeW (hr : Room j X.A) (hg : Gl X x) (tk : Takes X W) (ha : PA X (e :: es) t)
    (hdb : (x == ("__debug__" : Str)) = false := by decide) (he : starEach (e :: es) X.env = (false, eval e X.env) :: starEach es X.env := by rfl) (hpl : (backTo pos (starEach es X.env)).any (·.1) = false := by rfl) :
    PE X (.Call (.Name x p) (e :: es) [] pos) (tMakeW (enOf X) j x t W) := by
  refine ⟨fun pins s σ H Q I h => ?_⟩
  rcases h with h | ⟨k, C, sp, dvs, c, hk, h⟩
  · exact (e_make hr hg ha hdb he hpl).run pins s σ H Q I h
  obtain ⟨f, fd, ps, ds, M, F, hm, b, d⟩ := c.ex
  refine wpAny_Call_Name_kw (ld_glob I hg hm (PySem.W.callWith_K (h₀ := X.base) I.ok.mod.kin M.kp (thn (ha.run pos pins s σ H _ I h) fun us s1 ⟨vs, H1, J, r, q⟩ => ⟨J.kIn, ?_⟩) he hpl) hdb)
  exact run_makeE M F (hr.mono hk) b d tk J r q
theorem e_methW {pl : Sem Bool} (hr : Room j X.A) (tk : Takes X W) (he : PE X o ta) (ha : PA X (e :: es) t)
    (hst : starEach (e :: es) X.env = (false, eval e X.env) :: starEach es X.env := by rfl) (hpl : (backTo pos (starEach es X.env)).any (·.1) = false := by rfl)
    (ht : eval (.Call (.Attribute o m apos) (e :: es) [] pos) X.env = (do
      let ov ← eval o X.env
      standAt apos.atName
      let (f, first) ← holding [ov] (getMethod ov m pl)
      callWith pos f first (backTo pos (starEach (e :: es) X.env)) (backToKw pos (keywordEach [] X.env))) := by rfl) :
    PE X (.Call (.Attribute o m apos) (e :: es) [] pos) (tMethW (enOf X) j m ta t W) := by
  refine ⟨fun pins s σ H Q I h => PySem.W.methodCall_KW (pl := pl) (thn (he.run pins s σ H _ I h) fun u s1 ⟨x, H1, J, rx, w⟩ => ?_) ht⟩
  rcases w with ⟨a, C, dx, fs, k, sp, dvs, rfl, ea, l, c, hk, q⟩ | ⟨a, C, dx, fs, k, sp, dvs, rfl, ea, l, c, hk, q⟩
  · obtain ⟨f, fd, ps, ds, cl, hm, F, b, d⟩ := c.ex
    cases rx
    refine getmeth_ok J ea cl hm l (PySem.W.callWith_K (first := [.ref a]) (h₀ := X.base) J.ok.mod.kin hm.kp (thn (ha.run pos pins s1 σ H1 _ J q) fun us s2 ⟨vs, H2, J2, r, q2⟩ => ⟨J2.kIn, ?_⟩) hst hpl)
    exact run_fn (us := .ref a :: us) (vs := .ref a :: vs) F (hr.mono hk) b d pass0 J2 (.cons rfl r) q2
  · obtain ⟨f, fd, ps, ds, cl, hm, F, b, d⟩ := c.ex
    cases rx
    refine getmeth_ok J ea cl hm l (PySem.W.callWith_K (first := [.ref a]) (h₀ := X.base) J.ok.mod.kin hm.kp (thn (ha.run pos pins s1 σ H1 _ J q) fun us s2 ⟨vs, H2, J2, r, q2⟩ => ⟨J2.kIn, ?_⟩) hst hpl)
    exact run_fnE (us := .ref a :: us) (vs := .ref a :: vs) F (hr.mono hk) b d tk J2 (.cons rfl r) q2
theorem e_methW0 {pl : Sem Bool} (hr : Room j X.A) (tk : Takes X W) (he : PE X o ta)
    (ht : eval (.Call (.Attribute o m apos) [] [] pos) X.env = (do
      let ov ← eval o X.env
      standAt apos.atName
      let (f, first) ← holding [ov] (getMethod ov m pl)
      callWith pos f first (backTo pos (starEach [] X.env)) (backToKw pos (keywordEach [] X.env))) := by rfl) :
    PE X (.Call (.Attribute o m apos) [] [] pos) (tMethW (enOf X) j m ta tNil W) := by
  refine ⟨fun pins s σ H Q I h => PySem.W.methodCall_KW (pl := pl) (thn (he.run pins s σ H _ I h) fun u s1 ⟨x, H1, J, rx, w⟩ => ?_) ht⟩
  rcases w with ⟨a, C, dx, fs, k, sp, dvs, rfl, ea, l, c, hk, q⟩ | ⟨a, C, dx, fs, k, sp, dvs, rfl, ea, l, c, hk, q⟩
  · obtain ⟨f, fd, ps, ds, cl, hm, F, b, d⟩ := c.ex
    cases rx
    exact getmeth_ok J ea cl hm l (PySem.W.callWith_K0 (first := [.ref a]) J.kIn hm.kp (run_fn (us := [.ref a]) (vs := [.ref a]) F (hr.mono hk) b d pass0 J (.cons rfl .nil) q))
  · obtain ⟨f, fd, ps, ds, cl, hm, F, b, d⟩ := c.ex
    cases rx
    exact getmeth_ok J ea cl hm l (PySem.W.callWith_K0 (first := [.ref a]) J.kIn hm.kp (run_fnE (us := [.ref a]) (vs := [.ref a]) F (hr.mono hk) b d tk J (.cons rfl .nil) q))
theorem e_cmW {pl : Sem Bool} (hr : Room j X.A) (hg : Gl X x) (tk : Takes X W) (ha : PA X (e :: es) t) (hdb : (x == ("__debug__" : Str)) = false := by decide)
    (hst : starEach (e :: es) X.env = (false, eval e X.env) :: starEach es X.env := by rfl) (hpl : (backTo pos (starEach es X.env)).any (·.1) = false := by rfl)
    (ht : eval (.Call (.Attribute (.Name x p) m apos) (e :: es) [] pos) X.env = (do
      let ov ← eval (.Name x p) X.env
      standAt apos.atName
      let (f, first) ← holding [ov] (getMethod ov m pl)
      callWith pos f first (backTo pos (starEach (e :: es) X.env)) (backToKw pos (keywordEach [] X.env))) := by rfl) :
    PE X (.Call (.Attribute (.Name x p) m apos) (e :: es) [] pos) (tCmW (enOf X) j x m t W) := by
  refine ⟨fun pins s σ H Q I h => ?_⟩
  rcases h with h | ⟨k, sp, dvs, c, hk, q⟩
  · exact (e_cm hr hg ha hdb hst hpl ht).run pins s σ H Q I h
  obtain ⟨C, f, mc, fd, ps, ds, hm, rd, cv, kp, F, b, d⟩ := c.ex
  refine PySem.W.methodCall_KW (pl := pl) (thn ((e_cls (pos := p) hg hm hdb).run pins s σ H (fun v H1 => v = .ref C ∧ H1 = H) I ⟨rfl, rfl⟩) fun u s1 ⟨v, H1, J, rx, ev, eH⟩ => ?_) ht
  subst ev eH
  cases rx
  refine PySem.W.method_cls J.kIn rd.ga (ClX.getcval_ok J rd cv fun s2 J2 => PySem.W.callWith_K (first := []) (h₀ := X.base) I.ok.mod.kin kp (thn (ha.run pos pins s2 σ _ _ J2 q) fun us s3 ⟨vs, H2, J3, r, q2⟩ => ⟨J3.kIn, ?_⟩) hst hpl)
  exact run_fnE (us := us) (vs := vs) F (hr.mono hk) b d tk J3 r q2
end
/-! ### a def by its body, where it may raise -/
section
variable {G : En} {x qual : Str} {st : Stmt} {dvs : List V} {f : Addr} {fd : FuncData} {N ps : List Str} {k : Nat} {sp : Sp} {t : WX → TS}
abbrev cxE (G : En) (N : List Str) (qual : Str) (st : Stmt) (f : Addr) (cdv : Value) (A : Around) (outer : List Env) (s : Shared) (H : Hp) (E : XK) : Cx :=
  cxOf (CXe G) G.prog G.w G.K G.mg G.base N qual (defScope st) f cdv A outer s H E
theorem takesE {cdv : Value} {A : Around} {outer : List Env} {s : Shared} {H : Hp} {E : XK} : Takes (cxE G N qual st f cdv A outer s H E) (WD E) := takes_of rfl rfl rfl rfl
theorem fn_okE (F : FnP G.K x qual st dvs f fd) (S : FnScope N ps (defScope st)) (len : ∀ vs H Q E, sp vs H Q E → vs.length = ps.length)
    (dv : ∀ (cdv : Value) (A : Around) (outer : List Env) (s : Shared) (H : Hp) (E : XK), rm0 k qual st f cdv A s → PSs (cxE G N qual st f cdv A outer s H E) (defBody st) (t (WD E)))
    (pure : ∀ vs H Q E, sp vs H Q E → t (WD E) { nx := fun _ H' => Q .non H', rt := Q } (start N vs) H) : FnE G (k + 1) f fd ps sp :=
  F.ok S len fun cdv A outer s H vs Q E hr h => ⟨t (WD E), dv cdv A outer s H E hr, pure vs H Q E h⟩
end
/-! ### the classes -/
def bmV : List Value := [.type "ValueError", .type "Exception", .type "BaseException", .type "object"]
def excB (K : PySem.W.Frag) (x : Str) : Bool :=
  PySem.W.excIn K (He.ga K x) bmV "ValueError.__new__" && (PySem.W.keepIn K (.ref (He.ga K x)) && ((PySem.W.subIn K (.ref (He.ga K x)) (.type "BaseException") == some true) && ((PySem.W.typeIn K (.ref (He.ga K x)) == some (.type "type")) &&
  ((PySem.W.findIn K (.ref (He.ga K x)) "__getattribute__" == some (some (.builtin "BaseException.__getattribute__"))) && ((PySem.W.findIn K (.ref (He.ga K x)) "__getattr__" == some none) && (PySem.W.hasDictIn K (He.ga K x) && ((PySem.W.findIn K (.ref (He.ga K x)) "__class__" == some (some (.builtin "object.__class__"))) &&
  ((PySem.W.specialIn K (.builtin "object.__class__") "__get__" == some (some (.builtin "getset_descriptor.__get__"))) && ((PySem.W.takesIn K (.builtin "object.__class__") == some true) && (PySem.W.mroIn K (He.ga K x) (.type "object") == some true))))))))))
structure ExK (K : PySem.W.Frag) (x : Str) : Prop where
  xc : PySem.W.excIn K (He.ga K x) bmV "ValueError.__new__" = true
  kp : PySem.W.keepIn K (.ref (He.ga K x)) = true
  sb : PySem.W.subIn K (.ref (He.ga K x)) (.type "BaseException") = some true
  ty : PySem.W.typeIn K (.ref (He.ga K x)) = some (.type "type")
  ec : ExcC K (He.ga K x)
theorem excB_ok {K : PySem.W.Frag} {x : Str} (h : excB K x = true) : ExK K x := by
  unfold excB at h
  simp only [Bool.and_eq_true, beq_iff_eq] at h
  obtain ⟨h1, h2, h3, h4, h5, h6, h7, h8, h9, h10, h11⟩ := h
  exact ⟨h1, h2, h3, h4, h5, h6, h3, h7, h8, h9, h10, h11⟩
/-- how the class x stands to the class c: in except, in isinstance -/
def relB (K : PySem.W.Frag) (x c : Str) (b : Bool) : Bool := (PySem.W.exmOne K (.ref (He.ga K x)) (.ref (He.ga K c)) == some b) && (PySem.W.kitOne K (.ref (He.ga K x)) (.ref (He.ga K c)) == some b)
structure RelK (K : PySem.W.Frag) (x c : Str) (b : Bool) : Prop where
  ex : PySem.W.exmOne K (.ref (He.ga K x)) (.ref (He.ga K c)) = some b
  ki : PySem.W.kitOne K (.ref (He.ga K x)) (.ref (He.ga K c)) = some b
theorem relB_ok {K : PySem.W.Frag} {x c : Str} {b : Bool} (h : relB K x c b = true) : RelK K x c b := by
  unfold relB at h
  simp only [Bool.and_eq_true, beq_iff_eq] at h
  exact ⟨h.1, h.2⟩
section
variable {X : Cx} {x c : Str} {W : WX} {p pos pos2 p2 : Pos} {m : Str} {i : Nat}
theorem s_raise (hc : X.calm = true) (tk : Takes X W) (F : ExK X.K x) (g : X.mg x = some (.ref (He.ga X.K x))) (hg : Gl X x) (hdb : (x == ("__debug__" : Str)) = false := by decide) :
    PS X (.Raise (some (.Call (.Name x p) [.Constant (.str m) i p2] [] pos)) none pos2) (tRaise (He.ga X.K x) W) :=
  ps_raise hc tk (pmk_own PySem.F.excBase_ValueError F.xc g F.kp (raises_own F.sb F.ty) hg hdb)
/-- isinstance(e, C), e kept from an except clause -/
def rIsX (K : PySem.W.Frag) : List V → Hp → VK → Prop := fun xs H Q => ∃ (a D : Addr) (c : V) (cv : Value) (b : Bool), xs = [.ref a, c] ∧ H a = some (ExT (.ref D) none a) ∧ ExcC K D ∧ ClsV c cv ∧ PySem.W.kitOne K (.ref D) cv = some b ∧ Q (.bl b) H
theorem c_isX : CallR X (.builtin "isinstance") (rIsX X.K) := by
  intro pins s σ H xs us Q I r h
  obtain ⟨a, D, c, cv, b, rfl, ha, C, kc, e, q⟩ := h
  cases r with
  | cons rx rr =>
    cases rr with
    | cons rt rr =>
      cases rr
      cases rx
      cases kc.eq rt
      obtain ⟨⟨oe, vs, g1, z, f⟩, _⟩ : _ ∧ _ := (show ObjOk X.prog X.w H s.heap a (ExT (.ref D) none a) from I.hok a _ ha)
      have J : PySem.W.InstAt s.heap a oe D none := by
        obtain ⟨oc, od, oda, osl⟩ := oe
        obtain ⟨z1, z2⟩ := z
        cases z1; cases z2; cases f
        exact ⟨g1, rfl, rfl, trivial⟩
      exact PySem.W.kia_one (PySem.W.handS_kitx_exc C.hg C.hk C.hs C.hd C.ha C.hn C.ht C.hm) I.kIn J e (fun z => nomatch z) fun tk => ⟨.bl b, H, I.kept (t' := tk) fun _ _ z => z, rfl, q⟩
theorem x_isX {K : PySem.W.Frag} {H : Hp} {Q : VK} {a D : Addr} {c : V} {cv : Value} {b : Bool} (ha : H a = some (ExT (.ref D) none a)) (C : ExcC K D) (kc : ClsV c cv) (e : PySem.W.kitOne K (.ref D) cv = some b) (q : Q (.bl b) H) : rIsX K [.ref a, c] H Q := ⟨a, D, c, cv, b, rfl, ha, C, kc, e, q⟩
end
/-! ### steps -/
section
variable {G : En} {j k : Nat} {f x m : Str} {sp : Sp} {dvs : List V} {t : TA} {ta : TE} {W : WX} {σ : Stt} {H : Hp} {Q : VK} {a C dx : Addr} {fs : List (Str × V)} {D : Ends} {cls : Value} {dd : Option Addr}
theorem x_callW0 (c : CalG G k f sp dvs) (hk : k ≤ j) (q : t σ H fun vs H1 => sp (vs ++ dvs) H1 Q E0) : tCallW G j f t W σ H Q := .inl ⟨k, sp, dvs, c, hk, q⟩
theorem x_callWE (c : CalE G k f sp dvs) (hk : k ≤ j) (q : t σ H fun vs H1 => sp (vs ++ dvs) H1 Q (WE W σ)) : tCallW G j f t W σ H Q := .inr ⟨k, sp, dvs, c, hk, q⟩
theorem x_cmW0 (c : CmG G k x m sp dvs) (hk : k ≤ j) (q : t σ H fun vs H1 => sp (vs ++ dvs) H1 Q E0) : tCmW G j x m t W σ H Q := .inl ⟨k, sp, dvs, c, hk, q⟩
theorem x_cmWE (c : CmE G k x m sp dvs) (hk : k ≤ j) (q : t σ H fun vs H1 => sp (vs ++ dvs) H1 Q (WE W σ)) : tCmW G j x m t W σ H Q := .inr ⟨k, sp, dvs, c, hk, q⟩
theorem x_makeW0 (c : MakG G k f C sp dvs) (hk : k + 1 ≤ j) (q : t σ H fun vs H1 => MakeG C sp dvs vs H1 Q) : tMakeW G j f t W σ H Q := .inl ⟨k, C, sp, dvs, c, hk, q⟩
theorem x_makeWE (c : MakE G k f C sp dvs) (hk : k + 1 ≤ j) (q : t σ H fun vs H1 => MakeE C sp dvs vs (WE W σ) H1 Q) : tMakeW G j f t W σ H Q := .inr ⟨k, C, sp, dvs, c, hk, q⟩
theorem x_methW (q : ta σ H fun x H1 => MethW G j m t W σ x H1 Q) : tMethW G j m ta t W σ H Q := q
theorem x_methW0 (h : H a = some (.ins C dx fs)) (c : MetG G k C m sp dvs) (hk : k ≤ j) (l : fs.lookup m = none) (q : t σ H fun vs H2 => sp (.ref a :: (vs ++ dvs)) H2 Q E0) : MethW G j m t W σ (.ref a) H Q := .inl ⟨a, C, dx, fs, k, sp, dvs, rfl, h, l, c, hk, q⟩
theorem x_methWE (h : H a = some (.ins C dx fs)) (c : MetE G k C m sp dvs) (hk : k ≤ j) (l : fs.lookup m = none) (q : t σ H fun vs H2 => sp (.ref a :: (vs ++ dvs)) H2 Q (WE W σ)) : MethW G j m t W σ (.ref a) H Q := .inr ⟨a, C, dx, fs, k, sp, dvs, rfl, h, l, c, hk, q⟩
theorem x_try {K : PySem.W.Frag} {Wout : WX} {l : List Cls3} {tb : WX → TS} (q : tb (wCl K Wout D l) D σ H) : tTry K Wout l tb D σ H := q
theorem x_raise (q : W (.ref C) none σ H) : tRaise C W D σ H := q
theorem wCl_yes {K : PySem.W.Frag} {Wout : WX} {q : Cls3} {r : List Cls3} (e : PySem.W.exmOne K cls q.1 = some true) (h : ∀ a, H a = none → q.2.2 a cls dd (endsT q.2.1 a cls dd D) (σ.set q.2.1 (some (.ref a))) H) : wCl K Wout D (q :: r) cls dd σ H := ⟨true, e, fun _ => h, fun z => nomatch z⟩
theorem wCl_no {K : PySem.W.Frag} {Wout : WX} {q : Cls3} {r : List Cls3} (e : PySem.W.exmOne K cls q.1 = some false) (h : wCl K Wout D r cls dd σ H) : wCl K Wout D (q :: r) cls dd σ H := ⟨false, e, (fun z => nomatch z), fun _ => h⟩
end

/-! ### the text by places -/
def top (i : Nat) : Stmt := PySem.Challenge.pw_quietnet_k28_choice_refused.main.body.getD i (.Pass ⟨0, 0, 0, 0⟩)
abbrev s_Asleep_init : Stmt := inClass (top 5) 0
abbrev s_Awake_init : Stmt := inClass (top 6) 0
abbrev s_is_whole : Stmt := top 11
abbrev s_Choice_init : Stmt := inClass (top 15) 0
abbrev s_Choice_look_place : Stmt := inClass (top 15) 1
abbrev s_Choice_put : Stmt := inClass (top 15) 2
abbrev s_Choice_begin : Stmt := inClass (top 15) 3
abbrev s_Choice_come : Stmt := inClass (top 15) 4
abbrev s_Choice_heard : Stmt := inClass (top 15) 5
abbrev s_Choice_told : Stmt := inClass (top 15) 6
abbrev s_Choice_letters : Stmt := inClass (top 15) 7
abbrev s_Choice_ways : Stmt := inClass (top 15) 8
abbrev s__law_town : Stmt := top 17
abbrev s__law_draw : Stmt := top 18
abbrev s__law_pick : Stmt := top 19
abbrev s__law_refusal : Stmt := top 20
abbrev s__law_did : Stmt := top 21
abbrev s_law : Stmt := top 22
abbrev cl_NetError (K : PySem.W.Frag) : Addr := He.ga K "NetError"
abbrev cl_BadNumber (K : PySem.W.Frag) : Addr := He.ga K "BadNumber"
abbrev cl_BadStart (K : PySem.W.Frag) : Addr := He.ga K "BadStart"
abbrev cl_NoHand (K : PySem.W.Frag) : Addr := He.ga K "NoHand"
abbrev cl_Asleep (K : PySem.W.Frag) : Addr := He.ga K "Asleep"
abbrev cl_Awake (K : PySem.W.Frag) : Addr := He.ga K "Awake"
abbrev cl_TooMuch (K : PySem.W.Frag) : Addr := He.ga K "TooMuch"
abbrev cl_NoLetter (K : PySem.W.Frag) : Addr := He.ga K "NoLetter"
abbrev cl_NotNow (K : PySem.W.Frag) : Addr := He.ga K "NotNow"
abbrev cl_BadStory (K : PySem.W.Frag) : Addr := He.ga K "BadStory"
abbrev cl_Choice (K : PySem.W.Frag) : Addr := He.ga K "Choice"
def d_is_whole : He.DefD := ⟨("is_whole", none), "is_whole", "is_whole", defArgs s_is_whole, defBody s_is_whole, defScope s_is_whole, [], []⟩
def d__law_town : He.DefD := ⟨("_law_town", none), "_law_town", "_law_town", defArgs s__law_town, defBody s__law_town, defScope s__law_town, [], []⟩
def d__law_draw : He.DefD := ⟨("_law_draw", none), "_law_draw", "_law_draw", defArgs s__law_draw, defBody s__law_draw, defScope s__law_draw, [], []⟩
def d__law_pick : He.DefD := ⟨("_law_pick", none), "_law_pick", "_law_pick", defArgs s__law_pick, defBody s__law_pick, defScope s__law_pick, [], []⟩
def d__law_refusal : He.DefD := ⟨("_law_refusal", none), "_law_refusal", "_law_refusal", defArgs s__law_refusal, defBody s__law_refusal, defScope s__law_refusal, [], []⟩
def d__law_did : He.DefD := ⟨("_law_did", none), "_law_did", "_law_did", defArgs s__law_did, defBody s__law_did, defScope s__law_did, [], []⟩
def d_law : He.DefD := ⟨("law", none), "law", "law", defArgs s_law, defBody s_law, defScope s_law, [], []⟩
def d_Choice_init : He.DefD := ⟨("Choice", some "__init__"), "__init__", "Choice.__init__", defArgs s_Choice_init, defBody s_Choice_init, defScope s_Choice_init, [], []⟩
def d_Choice_look_place : He.DefD := ⟨("Choice", some "look_place"), "look_place", "Choice.look_place", defArgs s_Choice_look_place, defBody s_Choice_look_place, defScope s_Choice_look_place, [], []⟩
def d_Choice_put : He.DefD := ⟨("Choice", some "put"), "put", "Choice.put", defArgs s_Choice_put, defBody s_Choice_put, defScope s_Choice_put, [], []⟩
def d_Choice_begin : He.DefD := ⟨("Choice", some "begin"), "begin", "Choice.begin", defArgs s_Choice_begin, defBody s_Choice_begin, defScope s_Choice_begin, [], []⟩
def d_Choice_come : He.DefD := ⟨("Choice", some "come"), "come", "Choice.come", defArgs s_Choice_come, defBody s_Choice_come, defScope s_Choice_come, [], []⟩
def d_Choice_heard : He.DefD := ⟨("Choice", some "heard"), "heard", "Choice.heard", defArgs s_Choice_heard, defBody s_Choice_heard, defScope s_Choice_heard, [], []⟩
def d_Choice_told : He.DefD := ⟨("Choice", some "told"), "told", "Choice.told", defArgs s_Choice_told, defBody s_Choice_told, defScope s_Choice_told, [], []⟩
def d_Choice_letters : He.DefD := ⟨("Choice", some "letters"), "letters", "Choice.letters", defArgs s_Choice_letters, defBody s_Choice_letters, defScope s_Choice_letters, [], []⟩
def d_Choice_ways : He.DefD := ⟨("Choice", some "ways"), "ways", "Choice.ways", defArgs s_Choice_ways, defBody s_Choice_ways, defScope s_Choice_ways, [], []⟩
def fn : List He.DefD := [d_is_whole, d__law_town, d__law_draw, d__law_pick, d__law_refusal, d__law_did, d_law, d_Choice_init, d_Choice_look_place, d_Choice_put, d_Choice_begin, d_Choice_come, d_Choice_heard, d_Choice_told, d_Choice_letters, d_Choice_ways]
def fa : List He.Fa := [.glo "NetError",
  .glo "BadNumber",
  .glo "BadStart",
  .glo "NoHand",
  .glo "Asleep",
  .glo "Awake",
  .glo "TooMuch",
  .glo "NoLetter",
  .glo "NotNow",
  .glo "BadStory",
  .glo "is_whole",
  .int "MOST_NAME" 999,
  .int "MOST_PLACES" 10,
  .glo "Choice",
  .glo "_law_town",
  .glo "_law_draw",
  .glo "_law_pick",
  .glo "_law_refusal",
  .glo "_law_did",
  .glo "law",
  .free "range",
  .free "isinstance",
  .free "int",
  .free "list",
  .free "len",
  .free "tuple",
  .free "bool",
  .free "all",
  .free "max",
  .free "set"] ++ [.free "ValueError",
  .cls "Choice",
  .mkr "Choice",
  .noat "Choice" "names",
  .noat "Choice" "active",
  .noat "Choice" "known",
  .noat "Choice" "rows",
  .noat "Choice" "sent",
  .meth "Choice" "__init__",
  .meth "Choice" "look_place",
  .meth "Choice" "put",
  .meth "Choice" "begin",
  .meth "Choice" "come",
  .meth "Choice" "heard",
  .meth "Choice" "told",
  .meth "Choice" "letters",
  .meth "Choice" "ways"]
def exK (K : PySem.W.Frag) : Bool := excB K "BadNumber" && (relB K "BadNumber" "NetError" true && (relB K "BadNumber" "BadNumber" true && (relB K "BadNumber" "BadStart" false && (relB K "BadNumber" "NoHand" false && (relB K "BadNumber" "Asleep" false && (relB K "BadNumber" "Awake" false && (relB K "BadNumber" "TooMuch" false && (relB K "BadNumber" "NoLetter" false && (relB K "BadNumber" "NotNow" false && (relB K "BadNumber" "BadStory" false && ((PySem.W.kitOne K (.ref (He.ga K "BadNumber")) (.type "ValueError") == some true) && (excB K "NoHand" && (relB K "NoHand" "NetError" true && (relB K "NoHand" "BadNumber" false && (relB K "NoHand" "BadStart" false && (relB K "NoHand" "NoHand" true && (relB K "NoHand" "Asleep" false && (relB K "NoHand" "Awake" false && (relB K "NoHand" "TooMuch" false && (relB K "NoHand" "NoLetter" false && (relB K "NoHand" "NotNow" false && (relB K "NoHand" "BadStory" false && ((PySem.W.kitOne K (.ref (He.ga K "NoHand")) (.type "ValueError") == some true) && (excB K "NoLetter" && (relB K "NoLetter" "NetError" true && (relB K "NoLetter" "BadNumber" false && (relB K "NoLetter" "BadStart" false && (relB K "NoLetter" "NoHand" false && (relB K "NoLetter" "Asleep" false && (relB K "NoLetter" "Awake" false && (relB K "NoLetter" "TooMuch" false && (relB K "NoLetter" "NoLetter" true && (relB K "NoLetter" "NotNow" false && (relB K "NoLetter" "BadStory" false && ((PySem.W.kitOne K (.ref (He.ga K "NoLetter")) (.type "ValueError") == some true) && (excB K "NotNow" && (relB K "NotNow" "NetError" true && (relB K "NotNow" "BadNumber" false && (relB K "NotNow" "BadStart" false && (relB K "NotNow" "NoHand" false && (relB K "NotNow" "Asleep" false && (relB K "NotNow" "Awake" false && (relB K "NotNow" "TooMuch" false && (relB K "NotNow" "NoLetter" false && (relB K "NotNow" "NotNow" true && (relB K "NotNow" "BadStory" false && ((PySem.W.kitOne K (.ref (He.ga K "NotNow")) (.type "ValueError") == some true) && (true))))))))))))))))))))))))))))))))))))))))))))))))
structure ExAll (K : PySem.W.Frag) : Prop where
  e0 : excB K "BadNumber" = true
  e1 : relB K "BadNumber" "NetError" true = true
  e2 : relB K "BadNumber" "BadNumber" true = true
  e3 : relB K "BadNumber" "BadStart" false = true
  e4 : relB K "BadNumber" "NoHand" false = true
  e5 : relB K "BadNumber" "Asleep" false = true
  e6 : relB K "BadNumber" "Awake" false = true
  e7 : relB K "BadNumber" "TooMuch" false = true
  e8 : relB K "BadNumber" "NoLetter" false = true
  e9 : relB K "BadNumber" "NotNow" false = true
  e10 : relB K "BadNumber" "BadStory" false = true
  e11 : (PySem.W.kitOne K (.ref (He.ga K "BadNumber")) (.type "ValueError") == some true) = true
  e12 : excB K "NoHand" = true
  e13 : relB K "NoHand" "NetError" true = true
  e14 : relB K "NoHand" "BadNumber" false = true
  e15 : relB K "NoHand" "BadStart" false = true
  e16 : relB K "NoHand" "NoHand" true = true
  e17 : relB K "NoHand" "Asleep" false = true
  e18 : relB K "NoHand" "Awake" false = true
  e19 : relB K "NoHand" "TooMuch" false = true
  e20 : relB K "NoHand" "NoLetter" false = true
  e21 : relB K "NoHand" "NotNow" false = true
  e22 : relB K "NoHand" "BadStory" false = true
  e23 : (PySem.W.kitOne K (.ref (He.ga K "NoHand")) (.type "ValueError") == some true) = true
  e24 : excB K "NoLetter" = true
  e25 : relB K "NoLetter" "NetError" true = true
  e26 : relB K "NoLetter" "BadNumber" false = true
  e27 : relB K "NoLetter" "BadStart" false = true
  e28 : relB K "NoLetter" "NoHand" false = true
  e29 : relB K "NoLetter" "Asleep" false = true
  e30 : relB K "NoLetter" "Awake" false = true
  e31 : relB K "NoLetter" "TooMuch" false = true
  e32 : relB K "NoLetter" "NoLetter" true = true
  e33 : relB K "NoLetter" "NotNow" false = true
  e34 : relB K "NoLetter" "BadStory" false = true
  e35 : (PySem.W.kitOne K (.ref (He.ga K "NoLetter")) (.type "ValueError") == some true) = true
  e36 : excB K "NotNow" = true
  e37 : relB K "NotNow" "NetError" true = true
  e38 : relB K "NotNow" "BadNumber" false = true
  e39 : relB K "NotNow" "BadStart" false = true
  e40 : relB K "NotNow" "NoHand" false = true
  e41 : relB K "NotNow" "Asleep" false = true
  e42 : relB K "NotNow" "Awake" false = true
  e43 : relB K "NotNow" "TooMuch" false = true
  e44 : relB K "NotNow" "NoLetter" false = true
  e45 : relB K "NotNow" "NotNow" true = true
  e46 : relB K "NotNow" "BadStory" false = true
  e47 : (PySem.W.kitOne K (.ref (He.ga K "NotNow")) (.type "ValueError") == some true) = true
theorem exK_all {K : PySem.W.Frag} (h : exK K = true) : ExAll K := by
  have p0 := Bool.and_eq_true_iff.mp h
  have p1 := Bool.and_eq_true_iff.mp p0.2
  have p2 := Bool.and_eq_true_iff.mp p1.2
  have p3 := Bool.and_eq_true_iff.mp p2.2
  have p4 := Bool.and_eq_true_iff.mp p3.2
  have p5 := Bool.and_eq_true_iff.mp p4.2
  have p6 := Bool.and_eq_true_iff.mp p5.2
  have p7 := Bool.and_eq_true_iff.mp p6.2
  have p8 := Bool.and_eq_true_iff.mp p7.2
  have p9 := Bool.and_eq_true_iff.mp p8.2
  have p10 := Bool.and_eq_true_iff.mp p9.2
  have p11 := Bool.and_eq_true_iff.mp p10.2
  have p12 := Bool.and_eq_true_iff.mp p11.2
  have p13 := Bool.and_eq_true_iff.mp p12.2
  have p14 := Bool.and_eq_true_iff.mp p13.2
  have p15 := Bool.and_eq_true_iff.mp p14.2
  have p16 := Bool.and_eq_true_iff.mp p15.2
  have p17 := Bool.and_eq_true_iff.mp p16.2
  have p18 := Bool.and_eq_true_iff.mp p17.2
  have p19 := Bool.and_eq_true_iff.mp p18.2
  have p20 := Bool.and_eq_true_iff.mp p19.2
  have p21 := Bool.and_eq_true_iff.mp p20.2
  have p22 := Bool.and_eq_true_iff.mp p21.2
  have p23 := Bool.and_eq_true_iff.mp p22.2
  have p24 := Bool.and_eq_true_iff.mp p23.2
  have p25 := Bool.and_eq_true_iff.mp p24.2
  have p26 := Bool.and_eq_true_iff.mp p25.2
  have p27 := Bool.and_eq_true_iff.mp p26.2
  have p28 := Bool.and_eq_true_iff.mp p27.2
  have p29 := Bool.and_eq_true_iff.mp p28.2
  have p30 := Bool.and_eq_true_iff.mp p29.2
  have p31 := Bool.and_eq_true_iff.mp p30.2
  have p32 := Bool.and_eq_true_iff.mp p31.2
  have p33 := Bool.and_eq_true_iff.mp p32.2
  have p34 := Bool.and_eq_true_iff.mp p33.2
  have p35 := Bool.and_eq_true_iff.mp p34.2
  have p36 := Bool.and_eq_true_iff.mp p35.2
  have p37 := Bool.and_eq_true_iff.mp p36.2
  have p38 := Bool.and_eq_true_iff.mp p37.2
  have p39 := Bool.and_eq_true_iff.mp p38.2
  have p40 := Bool.and_eq_true_iff.mp p39.2
  have p41 := Bool.and_eq_true_iff.mp p40.2
  have p42 := Bool.and_eq_true_iff.mp p41.2
  have p43 := Bool.and_eq_true_iff.mp p42.2
  have p44 := Bool.and_eq_true_iff.mp p43.2
  have p45 := Bool.and_eq_true_iff.mp p44.2
  have p46 := Bool.and_eq_true_iff.mp p45.2
  have p47 := Bool.and_eq_true_iff.mp p46.2
  exact ⟨p0.1, p1.1, p2.1, p3.1, p4.1, p5.1, p6.1, p7.1, p8.1, p9.1, p10.1, p11.1, p12.1, p13.1, p14.1, p15.1, p16.1, p17.1, p18.1, p19.1, p20.1, p21.1, p22.1, p23.1, p24.1, p25.1, p26.1, p27.1, p28.1, p29.1, p30.1, p31.1, p32.1, p33.1, p34.1, p35.1, p36.1, p37.1, p38.1, p39.1, p40.1, p41.1, p42.1, p43.1, p44.1, p45.1, p46.1, p47.1⟩
/-! ### what the top has left -/
structure Wd (G : En) : Prop where
  g_NetError : G.mg "NetError" = some (.ref (He.ga G.K "NetError"))
  g_BadNumber : G.mg "BadNumber" = some (.ref (He.ga G.K "BadNumber"))
  g_BadStart : G.mg "BadStart" = some (.ref (He.ga G.K "BadStart"))
  g_NoHand : G.mg "NoHand" = some (.ref (He.ga G.K "NoHand"))
  g_Asleep : G.mg "Asleep" = some (.ref (He.ga G.K "Asleep"))
  g_Awake : G.mg "Awake" = some (.ref (He.ga G.K "Awake"))
  g_TooMuch : G.mg "TooMuch" = some (.ref (He.ga G.K "TooMuch"))
  g_NoLetter : G.mg "NoLetter" = some (.ref (He.ga G.K "NoLetter"))
  g_NotNow : G.mg "NotNow" = some (.ref (He.ga G.K "NotNow"))
  g_BadStory : G.mg "BadStory" = some (.ref (He.ga G.K "BadStory"))
  g_is_whole : G.mg "is_whole" = some (.ref (He.ga G.K "is_whole"))
  k_MOST_NAME : ∃ t, G.mg "MOST_NAME" = some (.int 999 t)
  k_MOST_PLACES : ∃ t, G.mg "MOST_PLACES" = some (.int 10 t)
  g_Choice : G.mg "Choice" = some (.ref (He.ga G.K "Choice"))
  g__law_town : G.mg "_law_town" = some (.ref (He.ga G.K "_law_town"))
  g__law_draw : G.mg "_law_draw" = some (.ref (He.ga G.K "_law_draw"))
  g__law_pick : G.mg "_law_pick" = some (.ref (He.ga G.K "_law_pick"))
  g__law_refusal : G.mg "_law_refusal" = some (.ref (He.ga G.K "_law_refusal"))
  g__law_did : G.mg "_law_did" = some (.ref (He.ga G.K "_law_did"))
  g_law : G.mg "law" = some (.ref (He.ga G.K "law"))
  z_range : G.mg "range" = none
  z_isinstance : G.mg "isinstance" = none
  z_int : G.mg "int" = none
  z_list : G.mg "list" = none
  z_len : G.mg "len" = none
  z_tuple : G.mg "tuple" = none
  z_bool : G.mg "bool" = none
  z_all : G.mg "all" = none
  z_max : G.mg "max" = none
  z_set : G.mg "set" = none
  z_ValueError : G.mg "ValueError" = none
  c_Choice : Cls G.K (cl_Choice G.K)
  mk_Choice : Mk G.K (cl_Choice G.K) (He.ma G.K (cl_Choice G.K) "__init__")
  na_Choice_names : NoAttr G.K (cl_Choice G.K) "names"
  na_Choice_active : NoAttr G.K (cl_Choice G.K) "active"
  na_Choice_known : NoAttr G.K (cl_Choice G.K) "known"
  na_Choice_rows : NoAttr G.K (cl_Choice G.K) "rows"
  na_Choice_sent : NoAttr G.K (cl_Choice G.K) "sent"
  m_Choice_init : Meth G.K (cl_Choice G.K) "__init__" (He.ma G.K (cl_Choice G.K) "__init__")
  m_Choice_look_place : Meth G.K (cl_Choice G.K) "look_place" (He.ma G.K (cl_Choice G.K) "look_place")
  m_Choice_put : Meth G.K (cl_Choice G.K) "put" (He.ma G.K (cl_Choice G.K) "put")
  m_Choice_begin : Meth G.K (cl_Choice G.K) "begin" (He.ma G.K (cl_Choice G.K) "begin")
  m_Choice_come : Meth G.K (cl_Choice G.K) "come" (He.ma G.K (cl_Choice G.K) "come")
  m_Choice_heard : Meth G.K (cl_Choice G.K) "heard" (He.ma G.K (cl_Choice G.K) "heard")
  m_Choice_told : Meth G.K (cl_Choice G.K) "told" (He.ma G.K (cl_Choice G.K) "told")
  m_Choice_letters : Meth G.K (cl_Choice G.K) "letters" (He.ma G.K (cl_Choice G.K) "letters")
  m_Choice_ways : Meth G.K (cl_Choice G.K) "ways" (He.ma G.K (cl_Choice G.K) "ways")
  f_is_whole : ∃ fd, FnP G.K "is_whole" "is_whole" s_is_whole [] (He.ga G.K "is_whole") fd
  f__law_town : ∃ fd, FnP G.K "_law_town" "_law_town" s__law_town [] (He.ga G.K "_law_town") fd
  f__law_draw : ∃ fd, FnP G.K "_law_draw" "_law_draw" s__law_draw [] (He.ga G.K "_law_draw") fd
  f__law_pick : ∃ fd, FnP G.K "_law_pick" "_law_pick" s__law_pick [] (He.ga G.K "_law_pick") fd
  f__law_refusal : ∃ fd, FnP G.K "_law_refusal" "_law_refusal" s__law_refusal [] (He.ga G.K "_law_refusal") fd
  f__law_did : ∃ fd, FnP G.K "_law_did" "_law_did" s__law_did [] (He.ga G.K "_law_did") fd
  f_law : ∃ fd, FnP G.K "law" "law" s_law [] (He.ga G.K "law") fd
  f_Choice_init : ∃ fd, FnP G.K "__init__" "Choice.__init__" s_Choice_init [] (He.ma G.K (cl_Choice G.K) "__init__") fd
  f_Choice_look_place : ∃ fd, FnP G.K "look_place" "Choice.look_place" s_Choice_look_place [] (He.ma G.K (cl_Choice G.K) "look_place") fd
  f_Choice_put : ∃ fd, FnP G.K "put" "Choice.put" s_Choice_put [] (He.ma G.K (cl_Choice G.K) "put") fd
  f_Choice_begin : ∃ fd, FnP G.K "begin" "Choice.begin" s_Choice_begin [] (He.ma G.K (cl_Choice G.K) "begin") fd
  f_Choice_come : ∃ fd, FnP G.K "come" "Choice.come" s_Choice_come [] (He.ma G.K (cl_Choice G.K) "come") fd
  f_Choice_heard : ∃ fd, FnP G.K "heard" "Choice.heard" s_Choice_heard [] (He.ma G.K (cl_Choice G.K) "heard") fd
  f_Choice_told : ∃ fd, FnP G.K "told" "Choice.told" s_Choice_told [] (He.ma G.K (cl_Choice G.K) "told") fd
  f_Choice_letters : ∃ fd, FnP G.K "letters" "Choice.letters" s_Choice_letters [] (He.ma G.K (cl_Choice G.K) "letters") fd
  f_Choice_ways : ∃ fd, FnP G.K "ways" "Choice.ways" s_Choice_ways [] (He.ma G.K (cl_Choice G.K) "ways") fd
  x_BadNumber : ExK G.K "BadNumber"
  r_BadNumber_NetError : RelK G.K "BadNumber" "NetError" true
  r_BadNumber_BadNumber : RelK G.K "BadNumber" "BadNumber" true
  r_BadNumber_BadStart : RelK G.K "BadNumber" "BadStart" false
  r_BadNumber_NoHand : RelK G.K "BadNumber" "NoHand" false
  r_BadNumber_Asleep : RelK G.K "BadNumber" "Asleep" false
  r_BadNumber_Awake : RelK G.K "BadNumber" "Awake" false
  r_BadNumber_TooMuch : RelK G.K "BadNumber" "TooMuch" false
  r_BadNumber_NoLetter : RelK G.K "BadNumber" "NoLetter" false
  r_BadNumber_NotNow : RelK G.K "BadNumber" "NotNow" false
  r_BadNumber_BadStory : RelK G.K "BadNumber" "BadStory" false
  v_BadNumber : PySem.W.kitOne G.K (.ref (He.ga G.K "BadNumber")) (.type "ValueError") = some true
  x_NoHand : ExK G.K "NoHand"
  r_NoHand_NetError : RelK G.K "NoHand" "NetError" true
  r_NoHand_BadNumber : RelK G.K "NoHand" "BadNumber" false
  r_NoHand_BadStart : RelK G.K "NoHand" "BadStart" false
  r_NoHand_NoHand : RelK G.K "NoHand" "NoHand" true
  r_NoHand_Asleep : RelK G.K "NoHand" "Asleep" false
  r_NoHand_Awake : RelK G.K "NoHand" "Awake" false
  r_NoHand_TooMuch : RelK G.K "NoHand" "TooMuch" false
  r_NoHand_NoLetter : RelK G.K "NoHand" "NoLetter" false
  r_NoHand_NotNow : RelK G.K "NoHand" "NotNow" false
  r_NoHand_BadStory : RelK G.K "NoHand" "BadStory" false
  v_NoHand : PySem.W.kitOne G.K (.ref (He.ga G.K "NoHand")) (.type "ValueError") = some true
  x_NoLetter : ExK G.K "NoLetter"
  r_NoLetter_NetError : RelK G.K "NoLetter" "NetError" true
  r_NoLetter_BadNumber : RelK G.K "NoLetter" "BadNumber" false
  r_NoLetter_BadStart : RelK G.K "NoLetter" "BadStart" false
  r_NoLetter_NoHand : RelK G.K "NoLetter" "NoHand" false
  r_NoLetter_Asleep : RelK G.K "NoLetter" "Asleep" false
  r_NoLetter_Awake : RelK G.K "NoLetter" "Awake" false
  r_NoLetter_TooMuch : RelK G.K "NoLetter" "TooMuch" false
  r_NoLetter_NoLetter : RelK G.K "NoLetter" "NoLetter" true
  r_NoLetter_NotNow : RelK G.K "NoLetter" "NotNow" false
  r_NoLetter_BadStory : RelK G.K "NoLetter" "BadStory" false
  v_NoLetter : PySem.W.kitOne G.K (.ref (He.ga G.K "NoLetter")) (.type "ValueError") = some true
  x_NotNow : ExK G.K "NotNow"
  r_NotNow_NetError : RelK G.K "NotNow" "NetError" true
  r_NotNow_BadNumber : RelK G.K "NotNow" "BadNumber" false
  r_NotNow_BadStart : RelK G.K "NotNow" "BadStart" false
  r_NotNow_NoHand : RelK G.K "NotNow" "NoHand" false
  r_NotNow_Asleep : RelK G.K "NotNow" "Asleep" false
  r_NotNow_Awake : RelK G.K "NotNow" "Awake" false
  r_NotNow_TooMuch : RelK G.K "NotNow" "TooMuch" false
  r_NotNow_NoLetter : RelK G.K "NotNow" "NoLetter" false
  r_NotNow_NotNow : RelK G.K "NotNow" "NotNow" true
  r_NotNow_BadStory : RelK G.K "NotNow" "BadStory" false
  v_NotNow : PySem.W.kitOne G.K (.ref (He.ga G.K "NotNow")) (.type "ValueError") = some true
theorem wd_of {G : En} {h : Heap} (X : G.K.In h) (N : h.Ns mainGlobals G.mg) (c : He.SaysD fa fn G.K) (ce : exK G.K = true) : Wd G where
  g_NetError := He.glo_ok X N (c.fact 0 (f := .glo "NetError") rfl)
  g_BadNumber := He.glo_ok X N (c.fact 1 (f := .glo "BadNumber") rfl)
  g_BadStart := He.glo_ok X N (c.fact 2 (f := .glo "BadStart") rfl)
  g_NoHand := He.glo_ok X N (c.fact 3 (f := .glo "NoHand") rfl)
  g_Asleep := He.glo_ok X N (c.fact 4 (f := .glo "Asleep") rfl)
  g_Awake := He.glo_ok X N (c.fact 5 (f := .glo "Awake") rfl)
  g_TooMuch := He.glo_ok X N (c.fact 6 (f := .glo "TooMuch") rfl)
  g_NoLetter := He.glo_ok X N (c.fact 7 (f := .glo "NoLetter") rfl)
  g_NotNow := He.glo_ok X N (c.fact 8 (f := .glo "NotNow") rfl)
  g_BadStory := He.glo_ok X N (c.fact 9 (f := .glo "BadStory") rfl)
  g_is_whole := He.glo_ok X N (c.fact 10 (f := .glo "is_whole") rfl)
  k_MOST_NAME := He.int_ok X N (c.fact 11 (f := .int "MOST_NAME" 999) rfl)
  k_MOST_PLACES := He.int_ok X N (c.fact 12 (f := .int "MOST_PLACES" 10) rfl)
  g_Choice := He.glo_ok X N (c.fact 13 (f := .glo "Choice") rfl)
  g__law_town := He.glo_ok X N (c.fact 14 (f := .glo "_law_town") rfl)
  g__law_draw := He.glo_ok X N (c.fact 15 (f := .glo "_law_draw") rfl)
  g__law_pick := He.glo_ok X N (c.fact 16 (f := .glo "_law_pick") rfl)
  g__law_refusal := He.glo_ok X N (c.fact 17 (f := .glo "_law_refusal") rfl)
  g__law_did := He.glo_ok X N (c.fact 18 (f := .glo "_law_did") rfl)
  g_law := He.glo_ok X N (c.fact 19 (f := .glo "law") rfl)
  z_range := He.free_ok X N (c.fact 20 (f := .free "range") rfl)
  z_isinstance := He.free_ok X N (c.fact 21 (f := .free "isinstance") rfl)
  z_int := He.free_ok X N (c.fact 22 (f := .free "int") rfl)
  z_list := He.free_ok X N (c.fact 23 (f := .free "list") rfl)
  z_len := He.free_ok X N (c.fact 24 (f := .free "len") rfl)
  z_tuple := He.free_ok X N (c.fact 25 (f := .free "tuple") rfl)
  z_bool := He.free_ok X N (c.fact 26 (f := .free "bool") rfl)
  z_all := He.free_ok X N (c.fact 27 (f := .free "all") rfl)
  z_max := He.free_ok X N (c.fact 28 (f := .free "max") rfl)
  z_set := He.free_ok X N (c.fact 29 (f := .free "set") rfl)
  z_ValueError := He.free_ok X N (c.fact 30 (f := .free "ValueError") rfl)
  c_Choice := He.cls_ok (c.fact 31 (f := .cls "Choice") rfl)
  mk_Choice := He.mkr_ok (c.fact 32 (f := .mkr "Choice") rfl)
  na_Choice_names := He.noat_ok (c.fact 33 (f := .noat "Choice" "names") rfl)
  na_Choice_active := He.noat_ok (c.fact 34 (f := .noat "Choice" "active") rfl)
  na_Choice_known := He.noat_ok (c.fact 35 (f := .noat "Choice" "known") rfl)
  na_Choice_rows := He.noat_ok (c.fact 36 (f := .noat "Choice" "rows") rfl)
  na_Choice_sent := He.noat_ok (c.fact 37 (f := .noat "Choice" "sent") rfl)
  m_Choice_init := He.meth_ok (c.fact 38 (f := .meth "Choice" "__init__") rfl)
  m_Choice_look_place := He.meth_ok (c.fact 39 (f := .meth "Choice" "look_place") rfl)
  m_Choice_put := He.meth_ok (c.fact 40 (f := .meth "Choice" "put") rfl)
  m_Choice_begin := He.meth_ok (c.fact 41 (f := .meth "Choice" "begin") rfl)
  m_Choice_come := He.meth_ok (c.fact 42 (f := .meth "Choice" "come") rfl)
  m_Choice_heard := He.meth_ok (c.fact 43 (f := .meth "Choice" "heard") rfl)
  m_Choice_told := He.meth_ok (c.fact 44 (f := .meth "Choice" "told") rfl)
  m_Choice_letters := He.meth_ok (c.fact 45 (f := .meth "Choice" "letters") rfl)
  m_Choice_ways := He.meth_ok (c.fact 46 (f := .meth "Choice" "ways") rfl)
  f_is_whole := c.def_ 0 (d := d_is_whole) rfl
  f__law_town := c.def_ 1 (d := d__law_town) rfl
  f__law_draw := c.def_ 2 (d := d__law_draw) rfl
  f__law_pick := c.def_ 3 (d := d__law_pick) rfl
  f__law_refusal := c.def_ 4 (d := d__law_refusal) rfl
  f__law_did := c.def_ 5 (d := d__law_did) rfl
  f_law := c.def_ 6 (d := d_law) rfl
  f_Choice_init := c.def_ 7 (d := d_Choice_init) rfl
  f_Choice_look_place := c.def_ 8 (d := d_Choice_look_place) rfl
  f_Choice_put := c.def_ 9 (d := d_Choice_put) rfl
  f_Choice_begin := c.def_ 10 (d := d_Choice_begin) rfl
  f_Choice_come := c.def_ 11 (d := d_Choice_come) rfl
  f_Choice_heard := c.def_ 12 (d := d_Choice_heard) rfl
  f_Choice_told := c.def_ 13 (d := d_Choice_told) rfl
  f_Choice_letters := c.def_ 14 (d := d_Choice_letters) rfl
  f_Choice_ways := c.def_ 15 (d := d_Choice_ways) rfl
  x_BadNumber := excB_ok (exK_all ce).e0
  r_BadNumber_NetError := relB_ok (exK_all ce).e1
  r_BadNumber_BadNumber := relB_ok (exK_all ce).e2
  r_BadNumber_BadStart := relB_ok (exK_all ce).e3
  r_BadNumber_NoHand := relB_ok (exK_all ce).e4
  r_BadNumber_Asleep := relB_ok (exK_all ce).e5
  r_BadNumber_Awake := relB_ok (exK_all ce).e6
  r_BadNumber_TooMuch := relB_ok (exK_all ce).e7
  r_BadNumber_NoLetter := relB_ok (exK_all ce).e8
  r_BadNumber_NotNow := relB_ok (exK_all ce).e9
  r_BadNumber_BadStory := relB_ok (exK_all ce).e10
  v_BadNumber := beq_iff_eq.mp (exK_all ce).e11
  x_NoHand := excB_ok (exK_all ce).e12
  r_NoHand_NetError := relB_ok (exK_all ce).e13
  r_NoHand_BadNumber := relB_ok (exK_all ce).e14
  r_NoHand_BadStart := relB_ok (exK_all ce).e15
  r_NoHand_NoHand := relB_ok (exK_all ce).e16
  r_NoHand_Asleep := relB_ok (exK_all ce).e17
  r_NoHand_Awake := relB_ok (exK_all ce).e18
  r_NoHand_TooMuch := relB_ok (exK_all ce).e19
  r_NoHand_NoLetter := relB_ok (exK_all ce).e20
  r_NoHand_NotNow := relB_ok (exK_all ce).e21
  r_NoHand_BadStory := relB_ok (exK_all ce).e22
  v_NoHand := beq_iff_eq.mp (exK_all ce).e23
  x_NoLetter := excB_ok (exK_all ce).e24
  r_NoLetter_NetError := relB_ok (exK_all ce).e25
  r_NoLetter_BadNumber := relB_ok (exK_all ce).e26
  r_NoLetter_BadStart := relB_ok (exK_all ce).e27
  r_NoLetter_NoHand := relB_ok (exK_all ce).e28
  r_NoLetter_Asleep := relB_ok (exK_all ce).e29
  r_NoLetter_Awake := relB_ok (exK_all ce).e30
  r_NoLetter_TooMuch := relB_ok (exK_all ce).e31
  r_NoLetter_NoLetter := relB_ok (exK_all ce).e32
  r_NoLetter_NotNow := relB_ok (exK_all ce).e33
  r_NoLetter_BadStory := relB_ok (exK_all ce).e34
  v_NoLetter := beq_iff_eq.mp (exK_all ce).e35
  x_NotNow := excB_ok (exK_all ce).e36
  r_NotNow_NetError := relB_ok (exK_all ce).e37
  r_NotNow_BadNumber := relB_ok (exK_all ce).e38
  r_NotNow_BadStart := relB_ok (exK_all ce).e39
  r_NotNow_NoHand := relB_ok (exK_all ce).e40
  r_NotNow_Asleep := relB_ok (exK_all ce).e41
  r_NotNow_Awake := relB_ok (exK_all ce).e42
  r_NotNow_TooMuch := relB_ok (exK_all ce).e43
  r_NotNow_NoLetter := relB_ok (exK_all ce).e44
  r_NotNow_NotNow := relB_ok (exK_all ce).e45
  r_NotNow_BadStory := relB_ok (exK_all ce).e46
  v_NotNow := beq_iff_eq.mp (exK_all ce).e47
abbrev R : PySem.W.OpenRow := PySem.W.OpenLaw.row PySem.Challenge.rw_quietnet_k28_choice_refused
abbrev hk : PySem.W.Hook := hookE 4 fa fn exK
def ob (s : PySem.W.SharedT) : He.AlD × Bool := obEG 4 fa fn exK (HandSHeadRun.getT s)
theorem ob_eq (s : PySem.W.SharedT) : ob s = hk.obs s.abs := obEG_eq (HandSHeadRun.getT_eq s)
def loose : List PySem.Str := (["NetError", "BadNumber", "BadStart", "NoHand", "Asleep", "Awake", "TooMuch", "NoLetter", "NotNow", "BadStory", "is_whole", "MOST_NAME", "MOST_PLACES", "Choice", "_law_town", "_law_draw", "_law_pick", "_law_refusal", "_law_did"] : List PySem.Str)
theorem run (w : World) : HandSHeadRun.RunEq R (PySem.W.view R.prog [22]) hk ob 30000 loose w := by
  intro os
  kernel_rfl

/-! ### readings and derivations -/
def N_is_whole : List Str := ["thing", "low", "high"]
theorem sc_is_whole : FnScope N_is_whole ["thing", "low", "high"] (defScope s_is_whole) := ⟨rfl, rfl, rfl, by decide +kernel, rfl, by decide +kernel, by decide +kernel⟩
def t_is_whole (G : En) : TS :=
    (tRet (tAndVQ (tCB (rIsi G.K) (tCons (tVar 0) (tCons (tC (.ty "int")) tNil))) (tAndVQ (tNotVQ (tCB (rIsi G.K) (tCons (tVar 0) (tCons (tC (.ty "bool")) tNil)))) (tChainQ (rI0 fun i j => .bl (decide (i ≤ j))) (rI0 fun i j => .bl (decide (i ≤ j))) (tVar 1) (tVar 0) (tVar 2)))))
theorem dv_is_whole {G : En} (W : Wd G) {qual : Str} {f : Addr} {cdv : Value} {A : Around} {outer : List Env} {s : Shared} {H : Hp} {E : XK} (hr : rm0 0 qual s_is_whole f cdv A s) : PSs (cx0 G N_is_whole qual s_is_whole f cdv A outer s H E) (defBody s_is_whole) (t_is_whole G) :=
    (pss_one (ps_ret (e_and (pe_callB call_isi (by rfl) W.z_isinstance (by decide +kernel) (pa_cons (pv 0) (pa_cons (e_ty (by rfl) W.z_int (by decide +kernel)) pa_nil))) (e_and (e_not (pe_callB call_isi (by rfl) W.z_isinstance (by decide +kernel) (pa_cons (pv 0) (pa_cons (e_ty (by rfl) W.z_bool (by decide +kernel)) pa_nil)))) (pe_one (e_chain op_le op_le (pv 1) (pv 0) (pv 2)))))))
theorem run_is_whole {G : En} (W : Wd G) {sp : Sp} (len : ∀ vs H Q E, sp vs H Q E → vs.length = 3) (pure : ∀ vs H Q E, sp vs H Q E → t_is_whole G { nx := fun _ H' => Q .non H', rt := Q } (start N_is_whole vs) H) : CalG G 1 "is_whole" sp [] := by
  obtain ⟨fd, F⟩ := W.f_is_whole
  exact ⟨⟨_, fd, ["thing", "low", "high"], [], fn_ok0 F sc_is_whole len (fun _ _ _ _ _ _ hr => dv_is_whole W hr) pure, W.g_is_whole, F.kp, (F.bindsN (ps := ["thing", "low", "high"]) fun _ _ _ _ _ _ us hl => match us, hl with | [_, _, _], _ => rfl), .nil⟩⟩
def N_Choice_init : List Str := ["self", "names", "fine", "name"]
theorem sc_Choice_init : FnScope N_Choice_init ["self", "names"] (defScope s_Choice_init) := ⟨rfl, rfl, rfl, by decide +kernel, rfl, by decide +kernel, by decide +kernel⟩
def t_Choice_init (G : En) : TS :=
    (tSeq (tAsg (tAndVQ (tCB (rIsi G.K) (tCons (tVar 1) (tCons (tC (.ty "list")) tNil))) (tChainQ (rI0 fun i j => .bl (decide (i ≤ j))) (rI0 fun i j => .bl (decide (i ≤ j))) (tC (.int 2)) (tCB (rLen G.K) (tCons (tVar 1) tNil)) (tC (.int 10)))) (gName 2))
    (tSeq (tIfS (tOr (tNot (tTestQ (tVar 2))) (tOr (tNot (tTestQ (tCB (rAll G.K) (tCons (tLcQ (iListQ G.K (tVar 1)) (gName 3) tYes (tCallQ G 1 "is_whole" (tCons (tVar 3) (tCons (tC (.int 0)) (tCons (tC (.int 999)) tNil)))) [3]) tNil)))) (tTestQ (tOp (rI0 fun i j => .bl (decide (i < j))) (tLenSet G.K (tVar 1)) (tCB (rLen G.K) (tCons (tVar 1) tNil)))))) tNever tNext)
    (tSeq (sFldQ G.K (tVar 0) (tCB (rListOf G.K) (tCons (tVar 1) tNil)) "names")
    (tSeq (sFldQ G.K (tVar 0) (tOp rRep (tLstQ (tCons (tC (.bl false)) tNil)) (tCB (rLen G.K) (tCons (tVar 1) tNil))) "active")
    (tSeq (sFldQ G.K (tVar 0) (tOp rRep (tLstQ (tCons (tC .non) tNil)) (tCB (rLen G.K) (tCons (tVar 1) tNil))) "known")
    (tSeq (sFldQ G.K (tVar 0) (tLcQ (iListQ G.K (tVar 1)) (gName 3) tYes (tLstQ tNil) [3]) "rows")
    (sFldQ G.K (tVar 0) (tC (.int 0)) "sent")))))))
theorem dv_Choice_init {G : En} (W : Wd G) {qual : Str} {f : Addr} {cdv : Value} {A : Around} {outer : List Env} {s : Shared} {H : Hp} {E : XK} (hr : rm0 1 qual s_Choice_init f cdv A s) : PSs (cx0 G N_Choice_init qual s_Choice_init f cdv A outer s H E) (defBody s_Choice_init) (t_Choice_init G) :=
    (pss_cons (ps_set (i := 2) sc_Choice_init.nd rfl (Or.inl rfl) (e_and (pe_callB call_isi (by rfl) W.z_isinstance (by decide +kernel) (pa_cons (pv 1) (pa_cons (e_ty (by rfl) W.z_list (by decide +kernel)) pa_nil))) (pe_one (e_chain op_le op_le pe_int (pe_callB c_len (by rfl) W.z_len (by decide +kernel) (pa_cons (pv 1) pa_nil)) (e_gint (by rfl) W.k_MOST_PLACES)))))
    (pss_cons (ps_if (PW.pt (pw_or (pt_not (b_val (pv 2))) (pw_or (pt_not (b_val (pe_callB (cr_all rfl) (by rfl) W.z_all (by decide +kernel) (pa_cons (e_lc (own := [("name", 3)]) (g := (gName 3)) rfl sc_Choice_init.nd (i_list (pv 1)) (blkOk_by (own := [("name", 3)]) (N := N_Choice_init) (sc := defScope s_Choice_init) (by decide +kernel)) (fun _ _ _ _ _ => (pg_name (i := 3) sc_Choice_init.nd rfl (Or.inl rfl))) (fun _ _ _ _ _ => pts_nil) (fun _ _ _ _ _ => (e_call hr (by rfl) (pa_cons (pv 3) (pa_cons pe_int (pa_cons (e_gint (by rfl) W.k_MOST_NAME) pa_nil)))))) pa_nil)))) (pw_or1 (b_cmp op_lt (e_lenSet rfl (by rfl) W.z_len (by rfl) W.z_set (pv 1)) (pe_callB c_len (by rfl) W.z_len (by decide +kernel) (pa_cons (pv 1) pa_nil)) (nomark _)))))) (pss_one ps_never) pss_nil)
    (pss_cons (s_fld (pv 0) (pe_callTy c_list (by rfl) W.z_list (by decide +kernel) (pa_cons (pv 1) pa_nil)))
    (pss_cons (s_fld (pv 0) (pe_op op_rep (e_lst (pa_cons pe_bl pa_nil)) (pe_callB c_len (by rfl) W.z_len (by decide +kernel) (pa_cons (pv 1) pa_nil))))
    (pss_cons (s_fld (pv 0) (pe_op op_rep (e_lst (pa_cons pe_non pa_nil)) (pe_callB c_len (by rfl) W.z_len (by decide +kernel) (pa_cons (pv 1) pa_nil))))
    (pss_cons (s_fld (pv 0) (e_lc (own := [("name", 3)]) (g := (gName 3)) rfl sc_Choice_init.nd (i_list (pv 1)) (blkOk_by (own := [("name", 3)]) (N := N_Choice_init) (sc := defScope s_Choice_init) (by decide +kernel)) (fun _ _ _ _ _ => (pg_name (i := 3) sc_Choice_init.nd rfl (Or.inl rfl))) (fun _ _ _ _ _ => pts_nil) (fun _ _ _ _ _ => (e_lst pa_nil))))
    (pss_one (s_fld (pv 0) pe_int))))))))
theorem run_Choice_init {G : En} (W : Wd G) {sp : Sp} (len : ∀ vs H Q E, sp vs H Q E → vs.length = 2) (pure : ∀ vs H Q E, sp vs H Q E → t_Choice_init G { nx := fun _ H' => Q .non H', rt := Q } (start N_Choice_init vs) H) : MakG G 2 "Choice" (cl_Choice G.K) sp [] := by
  obtain ⟨fd, F⟩ := W.f_Choice_init
  exact ⟨⟨_, fd, ["self", "names"], [], W.mk_Choice, fn_ok0 F sc_Choice_init len (fun _ _ _ _ _ _ hr => dv_Choice_init W hr) pure, W.g_Choice, (F.bindsN (ps := ["self", "names"]) fun _ _ _ _ _ _ us hl => match us, hl with | [_, _], _ => rfl), .nil⟩⟩
def tE_Choice_init (G : En) (Wx : WX) : TS :=
    (tSeq (tAsg (tAndVQ (tCB (rIsi G.K) (tCons (tVar 1) (tCons (tC (.ty "list")) tNil))) (tChainQ (rI0 fun i j => .bl (decide (i ≤ j))) (rI0 fun i j => .bl (decide (i ≤ j))) (tC (.int 2)) (tCB (rLen G.K) (tCons (tVar 1) tNil)) (tC (.int 10)))) (gName 2))
    (tSeq (tIfS (tOr (tNot (tTestQ (tVar 2))) (tOr (tNot (tTestQ (tCB (rAll G.K) (tCons (tLcQ (iListQ G.K (tVar 1)) (gName 3) tYes (tCallQ G 1 "is_whole" (tCons (tVar 3) (tCons (tC (.int 0)) (tCons (tC (.int 999)) tNil)))) [3]) tNil)))) (tTestQ (tOp (rI0 fun i j => .bl (decide (i < j))) (tLenSet G.K (tVar 1)) (tCB (rLen G.K) (tCons (tVar 1) tNil)))))) (tRaise (He.ga G.K "BadNumber") Wx) tNext)
    (tSeq (sFldQ G.K (tVar 0) (tCB (rListOf G.K) (tCons (tVar 1) tNil)) "names")
    (tSeq (sFldQ G.K (tVar 0) (tOp rRep (tLstQ (tCons (tC (.bl false)) tNil)) (tCB (rLen G.K) (tCons (tVar 1) tNil))) "active")
    (tSeq (sFldQ G.K (tVar 0) (tOp rRep (tLstQ (tCons (tC .non) tNil)) (tCB (rLen G.K) (tCons (tVar 1) tNil))) "known")
    (tSeq (sFldQ G.K (tVar 0) (tLcQ (iListQ G.K (tVar 1)) (gName 3) tYes (tLstQ tNil) [3]) "rows")
    (sFldQ G.K (tVar 0) (tC (.int 0)) "sent")))))))
theorem dvE_Choice_init {G : En} (W : Wd G) {qual : Str} {f : Addr} {cdv : Value} {A : Around} {outer : List Env} {s : Shared} {H : Hp} {E : XK} (hr : rm0 1 qual s_Choice_init f cdv A s) : PSs (cxE G N_Choice_init qual s_Choice_init f cdv A outer s H E) (defBody s_Choice_init) (tE_Choice_init G (WD E)) :=
    have tk : Takes (cxE G N_Choice_init qual s_Choice_init f cdv A outer s H E) (WD E) := takesE
    (pss_cons (ps_set (i := 2) sc_Choice_init.nd rfl (Or.inl rfl) (e_and (pe_callB call_isi (by rfl) W.z_isinstance (by decide +kernel) (pa_cons (pv 1) (pa_cons (e_ty (by rfl) W.z_list (by decide +kernel)) pa_nil))) (pe_one (e_chain op_le op_le pe_int (pe_callB c_len (by rfl) W.z_len (by decide +kernel) (pa_cons (pv 1) pa_nil)) (e_gint (by rfl) W.k_MOST_PLACES)))))
    (pss_cons (ps_if (PW.pt (pw_or (pt_not (b_val (pv 2))) (pw_or (pt_not (b_val (pe_callB (cr_all rfl) (by rfl) W.z_all (by decide +kernel) (pa_cons (e_lc (own := [("name", 3)]) (g := (gName 3)) rfl sc_Choice_init.nd (i_list (pv 1)) (blkOk_by (own := [("name", 3)]) (N := N_Choice_init) (sc := defScope s_Choice_init) (by decide +kernel)) (fun _ _ _ _ _ => (pg_name (i := 3) sc_Choice_init.nd rfl (Or.inl rfl))) (fun _ _ _ _ _ => pts_nil) (fun _ _ _ _ _ => (e_call hr (by rfl) (pa_cons (pv 3) (pa_cons pe_int (pa_cons (e_gint (by rfl) W.k_MOST_NAME) pa_nil)))))) pa_nil)))) (pw_or1 (b_cmp op_lt (e_lenSet rfl (by rfl) W.z_len (by rfl) W.z_set (pv 1)) (pe_callB c_len (by rfl) W.z_len (by decide +kernel) (pa_cons (pv 1) pa_nil)) (nomark _)))))) (pss_one (s_raise rfl tk W.x_BadNumber W.g_BadNumber (by rfl))) pss_nil)
    (pss_cons (s_fld (pv 0) (pe_callTy c_list (by rfl) W.z_list (by decide +kernel) (pa_cons (pv 1) pa_nil)))
    (pss_cons (s_fld (pv 0) (pe_op op_rep (e_lst (pa_cons pe_bl pa_nil)) (pe_callB c_len (by rfl) W.z_len (by decide +kernel) (pa_cons (pv 1) pa_nil))))
    (pss_cons (s_fld (pv 0) (pe_op op_rep (e_lst (pa_cons pe_non pa_nil)) (pe_callB c_len (by rfl) W.z_len (by decide +kernel) (pa_cons (pv 1) pa_nil))))
    (pss_cons (s_fld (pv 0) (e_lc (own := [("name", 3)]) (g := (gName 3)) rfl sc_Choice_init.nd (i_list (pv 1)) (blkOk_by (own := [("name", 3)]) (N := N_Choice_init) (sc := defScope s_Choice_init) (by decide +kernel)) (fun _ _ _ _ _ => (pg_name (i := 3) sc_Choice_init.nd rfl (Or.inl rfl))) (fun _ _ _ _ _ => pts_nil) (fun _ _ _ _ _ => (e_lst pa_nil))))
    (pss_one (s_fld (pv 0) pe_int))))))))
theorem runE_Choice_init {G : En} (W : Wd G) {sp : Sp} (len : ∀ vs H Q E, sp vs H Q E → vs.length = 2) (pure : ∀ vs H Q E, sp vs H Q E → tE_Choice_init G (WD E) { nx := fun _ H' => Q .non H', rt := Q } (start N_Choice_init vs) H) : MakE G 2 "Choice" (cl_Choice G.K) sp [] := by
  obtain ⟨fd, F⟩ := W.f_Choice_init
  exact ⟨⟨_, fd, ["self", "names"], [], W.mk_Choice, fn_okE (t := tE_Choice_init G) F sc_Choice_init len (fun _ _ _ _ _ _ hr => dvE_Choice_init W hr) pure, W.g_Choice, (F.bindsN (ps := ["self", "names"]) fun _ _ _ _ _ _ us hl => match us, hl with | [_, _], _ => rfl), .nil⟩⟩
def N_Choice_look_place : List Str := ["self", "place"]
theorem sc_Choice_look_place : FnScope N_Choice_look_place ["self", "place"] (defScope s_Choice_look_place) := ⟨rfl, rfl, rfl, by decide +kernel, rfl, by decide +kernel, by decide +kernel⟩
def t_Choice_look_place (G : En) : TS :=
    (tIfS (tNot (tTestQ (tCallQ G 1 "is_whole" (tCons (tVar 1) (tCons (tC (.int 0)) (tCons (tOp (rI0 fun i j => .int (i - j)) (tCB (rLen G.K) (tCons (tFldQ G.K (tVar 0) "names") tNil)) (tC (.int 1))) tNil)))))) tNever tNext)
theorem dv_Choice_look_place {G : En} (W : Wd G) {qual : Str} {f : Addr} {cdv : Value} {A : Around} {outer : List Env} {s : Shared} {H : Hp} {E : XK} (hr : rm0 1 qual s_Choice_look_place f cdv A s) : PSs (cx0 G N_Choice_look_place qual s_Choice_look_place f cdv A outer s H E) (defBody s_Choice_look_place) (t_Choice_look_place G) :=
    (pss_one (ps_if (pt_not (b_val (e_call hr (by rfl) (pa_cons (pv 1) (pa_cons pe_int (pa_cons (pe_op op_sub (pe_callB c_len (by rfl) W.z_len (by decide +kernel) (pa_cons (e_fld (pv 0)) pa_nil)) pe_int) pa_nil)))))) (pss_one ps_never) pss_nil))
theorem run_Choice_look_place {G : En} (W : Wd G) {sp : Sp} (len : ∀ vs H Q E, sp vs H Q E → vs.length = 2) (pure : ∀ vs H Q E, sp vs H Q E → t_Choice_look_place G { nx := fun _ H' => Q .non H', rt := Q } (start N_Choice_look_place vs) H) : MetG G 2 (cl_Choice G.K) "look_place" sp [] := by
  obtain ⟨fd, F⟩ := W.f_Choice_look_place
  exact ⟨⟨_, fd, ["self", "place"], [], W.c_Choice, W.m_Choice_look_place, fn_ok0 F sc_Choice_look_place len (fun _ _ _ _ _ _ hr => dv_Choice_look_place W hr) pure, (F.bindsN (ps := ["self", "place"]) fun _ _ _ _ _ _ us hl => match us, hl with | [_, _], _ => rfl), .nil⟩⟩
def tE_Choice_look_place (G : En) (Wx : WX) : TS :=
    (tIfS (tNot (tTestQ (tCallQ G 1 "is_whole" (tCons (tVar 1) (tCons (tC (.int 0)) (tCons (tOp (rI0 fun i j => .int (i - j)) (tCB (rLen G.K) (tCons (tFldQ G.K (tVar 0) "names") tNil)) (tC (.int 1))) tNil)))))) (tRaise (He.ga G.K "NoHand") Wx) tNext)
theorem dvE_Choice_look_place {G : En} (W : Wd G) {qual : Str} {f : Addr} {cdv : Value} {A : Around} {outer : List Env} {s : Shared} {H : Hp} {E : XK} (hr : rm0 1 qual s_Choice_look_place f cdv A s) : PSs (cxE G N_Choice_look_place qual s_Choice_look_place f cdv A outer s H E) (defBody s_Choice_look_place) (tE_Choice_look_place G (WD E)) :=
    have tk : Takes (cxE G N_Choice_look_place qual s_Choice_look_place f cdv A outer s H E) (WD E) := takesE
    (pss_one (ps_if (pt_not (b_val (e_call hr (by rfl) (pa_cons (pv 1) (pa_cons pe_int (pa_cons (pe_op op_sub (pe_callB c_len (by rfl) W.z_len (by decide +kernel) (pa_cons (e_fld (pv 0)) pa_nil)) pe_int) pa_nil)))))) (pss_one (s_raise rfl tk W.x_NoHand W.g_NoHand (by rfl))) pss_nil))
theorem runE_Choice_look_place {G : En} (W : Wd G) {sp : Sp} (len : ∀ vs H Q E, sp vs H Q E → vs.length = 2) (pure : ∀ vs H Q E, sp vs H Q E → tE_Choice_look_place G (WD E) { nx := fun _ H' => Q .non H', rt := Q } (start N_Choice_look_place vs) H) : MetE G 2 (cl_Choice G.K) "look_place" sp [] := by
  obtain ⟨fd, F⟩ := W.f_Choice_look_place
  exact ⟨⟨_, fd, ["self", "place"], [], W.c_Choice, W.m_Choice_look_place, fn_okE (t := tE_Choice_look_place G) F sc_Choice_look_place len (fun _ _ _ _ _ _ hr => dvE_Choice_look_place W hr) pure, (F.bindsN (ps := ["self", "place"]) fun _ _ _ _ _ _ us hl => match us, hl with | [_, _], _ => rfl), .nil⟩⟩
def N_Choice_put : List Str := ["self", "place", "word", "name"]
theorem sc_Choice_put : FnScope N_Choice_put ["self", "place", "word", "name"] (defScope s_Choice_put) := ⟨rfl, rfl, rfl, by decide +kernel, rfl, by decide +kernel, by decide +kernel⟩
def t_Choice_put (G : En) : TS :=
    (tSeq (tDrop (tBMQ G.K "list" rAppend (tOp (rIxL G.K) (tFldQ G.K (tVar 0) "rows") (tVar 1)) (tCons (tTupQ (tCons (tVar 2) (tCons (tVar 3) tNil))) tNil)))
    (sFldQ G.K (tVar 0) (tOp (rI0 fun i j => .int (i + j)) (tFldQ G.K (tVar 0) "sent") (tC (.int 1))) "sent"))
theorem dv_Choice_put {G : En} (W : Wd G) {qual : Str} {f : Addr} {cdv : Value} {A : Around} {outer : List Env} {s : Shared} {H : Hp} {E : XK} (hr : rm0 0 qual s_Choice_put f cdv A s) : PSs (cx0 G N_Choice_put qual s_Choice_put f cdv A outer s H E) (defBody s_Choice_put) (t_Choice_put G) :=
    (pss_cons (ps_expr (e_bm PySem.F.plainAttrs_list PySem.F.slot_list_append PySem.F.type_list_append mt_append (pe_ix ix_list (e_fld (pv 0)) (pv 1) (fun _ _ => rfl)) (pa_cons (e_tup (pa_cons (pv 2) (pa_cons (pv 3) pa_nil))) pa_nil)))
    (pss_one (s_fld (pv 0) (pe_op op_add (e_fld (pv 0)) pe_int))))
theorem run_Choice_put {G : En} (W : Wd G) {sp : Sp} (len : ∀ vs H Q E, sp vs H Q E → vs.length = 4) (pure : ∀ vs H Q E, sp vs H Q E → t_Choice_put G { nx := fun _ H' => Q .non H', rt := Q } (start N_Choice_put vs) H) : MetG G 1 (cl_Choice G.K) "put" sp [] := by
  obtain ⟨fd, F⟩ := W.f_Choice_put
  exact ⟨⟨_, fd, ["self", "place", "word", "name"], [], W.c_Choice, W.m_Choice_put, fn_ok0 F sc_Choice_put len (fun _ _ _ _ _ _ hr => dv_Choice_put W hr) pure, (F.bindsN (ps := ["self", "place", "word", "name"]) fun _ _ _ _ _ _ us hl => match us, hl with | [_, _, _, _], _ => rfl), .nil⟩⟩
def N_Choice_begin : List Str := ["self", "place"]
theorem sc_Choice_begin : FnScope N_Choice_begin ["self", "place"] (defScope s_Choice_begin) := ⟨rfl, rfl, rfl, by decide +kernel, rfl, by decide +kernel, by decide +kernel⟩
def t_Choice_begin (G : En) : TS :=
    (tSeq (tDrop (tMethQ G 2 "look_place" (tVar 0) (tCons (tVar 1) tNil)))
    (tSeq (tIfS (tOr (tTestQ (tOp (rIxL G.K) (tFldQ G.K (tVar 0) "active") (tVar 1))) (tTestQ (tOp rNotNq (tOp (rIxL G.K) (tFldQ G.K (tVar 0) "known") (tVar 1)) (tC .non)))) tNever tNext)
    (tSeq (tAsg (tC (.bl true)) (gSub (tFldQ G.K (tVar 0) "active") (tVar 1) rSetL))
    (tDrop (tMethQ G 2 "put" (tVar 0) (tCons (tVar 1) (tCons (tC (.str "name")) (tCons (tOp (rIxL G.K) (tFldQ G.K (tVar 0) "names") (tVar 1)) tNil))))))))
theorem dv_Choice_begin {G : En} (W : Wd G) {qual : Str} {f : Addr} {cdv : Value} {A : Around} {outer : List Env} {s : Shared} {H : Hp} {E : XK} (hr : rm0 2 qual s_Choice_begin f cdv A s) : PSs (cx0 G N_Choice_begin qual s_Choice_begin f cdv A outer s H E) (defBody s_Choice_begin) (t_Choice_begin G) :=
    (pss_cons (ps_expr (e_meth hr (pv 0) (pa_cons (pv 1) pa_nil)))
    (pss_cons (ps_if (PW.pt (pw_or (b_val (pe_ix ix_list (e_fld (pv 0)) (pv 1) (fun _ _ => rfl))) (pw_or1 (b_cmp c_notN (pe_ix ix_list (e_fld (pv 0)) (pv 1) (fun _ _ => rfl)) pe_non (nomark _))))) (pss_one ps_never) pss_nil)
    (pss_cons (ps_asg pe_bl (pg_sub (e_fld (pv 0)) (pv 1) set_list))
    (pss_one (ps_expr (e_meth hr (pv 0) (pa_cons (pv 1) (pa_cons pe_str (pa_cons (pe_ix ix_list (e_fld (pv 0)) (pv 1) (fun _ _ => rfl)) pa_nil)))))))))
theorem run_Choice_begin {G : En} (W : Wd G) {sp : Sp} (len : ∀ vs H Q E, sp vs H Q E → vs.length = 2) (pure : ∀ vs H Q E, sp vs H Q E → t_Choice_begin G { nx := fun _ H' => Q .non H', rt := Q } (start N_Choice_begin vs) H) : MetG G 3 (cl_Choice G.K) "begin" sp [] := by
  obtain ⟨fd, F⟩ := W.f_Choice_begin
  exact ⟨⟨_, fd, ["self", "place"], [], W.c_Choice, W.m_Choice_begin, fn_ok0 F sc_Choice_begin len (fun _ _ _ _ _ _ hr => dv_Choice_begin W hr) pure, (F.bindsN (ps := ["self", "place"]) fun _ _ _ _ _ _ us hl => match us, hl with | [_, _], _ => rfl), .nil⟩⟩
def tE_Choice_begin (G : En) (Wx : WX) : TS :=
    (tSeq (tDrop (tMethW G 2 "look_place" (tVar 0) (tCons (tVar 1) tNil) Wx))
    (tSeq (tIfS (tOr (tTestQ (tOp (rIxL G.K) (tFldQ G.K (tVar 0) "active") (tVar 1))) (tTestQ (tOp rNotNq (tOp (rIxL G.K) (tFldQ G.K (tVar 0) "known") (tVar 1)) (tC .non)))) (tRaise (He.ga G.K "NotNow") Wx) tNext)
    (tSeq (tAsg (tC (.bl true)) (gSub (tFldQ G.K (tVar 0) "active") (tVar 1) rSetL))
    (tDrop (tMethQ G 2 "put" (tVar 0) (tCons (tVar 1) (tCons (tC (.str "name")) (tCons (tOp (rIxL G.K) (tFldQ G.K (tVar 0) "names") (tVar 1)) tNil))))))))
theorem dvE_Choice_begin {G : En} (W : Wd G) {qual : Str} {f : Addr} {cdv : Value} {A : Around} {outer : List Env} {s : Shared} {H : Hp} {E : XK} (hr : rm0 2 qual s_Choice_begin f cdv A s) : PSs (cxE G N_Choice_begin qual s_Choice_begin f cdv A outer s H E) (defBody s_Choice_begin) (tE_Choice_begin G (WD E)) :=
    have tk : Takes (cxE G N_Choice_begin qual s_Choice_begin f cdv A outer s H E) (WD E) := takesE
    (pss_cons (ps_expr (e_methW hr tk (pv 0) (pa_cons (pv 1) pa_nil)))
    (pss_cons (ps_if (PW.pt (pw_or (b_val (pe_ix ix_list (e_fld (pv 0)) (pv 1) (fun _ _ => rfl))) (pw_or1 (b_cmp c_notN (pe_ix ix_list (e_fld (pv 0)) (pv 1) (fun _ _ => rfl)) pe_non (nomark _))))) (pss_one (s_raise rfl tk W.x_NotNow W.g_NotNow (by rfl))) pss_nil)
    (pss_cons (ps_asg pe_bl (pg_sub (e_fld (pv 0)) (pv 1) set_list))
    (pss_one (ps_expr (e_meth hr (pv 0) (pa_cons (pv 1) (pa_cons pe_str (pa_cons (pe_ix ix_list (e_fld (pv 0)) (pv 1) (fun _ _ => rfl)) pa_nil)))))))))
theorem runE_Choice_begin {G : En} (W : Wd G) {sp : Sp} (len : ∀ vs H Q E, sp vs H Q E → vs.length = 2) (pure : ∀ vs H Q E, sp vs H Q E → tE_Choice_begin G (WD E) { nx := fun _ H' => Q .non H', rt := Q } (start N_Choice_begin vs) H) : MetE G 3 (cl_Choice G.K) "begin" sp [] := by
  obtain ⟨fd, F⟩ := W.f_Choice_begin
  exact ⟨⟨_, fd, ["self", "place"], [], W.c_Choice, W.m_Choice_begin, fn_okE (t := tE_Choice_begin G) F sc_Choice_begin len (fun _ _ _ _ _ _ hr => dvE_Choice_begin W hr) pure, (F.bindsN (ps := ["self", "place"]) fun _ _ _ _ _ _ us hl => match us, hl with | [_, _], _ => rfl), .nil⟩⟩
def N_Choice_come : List Str := ["self", "place", "word", "name", "after"]
theorem sc_Choice_come : FnScope N_Choice_come ["self", "place"] (defScope s_Choice_come) := ⟨rfl, rfl, rfl, by decide +kernel, rfl, by decide +kernel, by decide +kernel⟩
def t_Choice_come (G : En) : TS :=
    (tSeq (tDrop (tMethQ G 4 "look_place" (tVar 0) (tCons (tVar 1) tNil)))
    (tSeq (tIfS (tTestQ (tOp (rEqD G.K) (tOp (rIxL G.K) (tFldQ G.K (tVar 0) "rows") (tVar 1)) (tLstQ tNil))) tNever tNext)
    (tSeq (tAsg (tBMQ G.K "list" rPopAt (tOp (rIxL G.K) (tFldQ G.K (tVar 0) "rows") (tVar 1)) (tCons (tC (.int 0)) tNil)) (gTup G.K 2 (gCons (gName 2) (gCons (gName 3) gNil))))
    (tSeq (tAsg (tOp (rI (fun _ j => 0 < j) fun i j => .int (i % j)) (tOp (rI0 fun i j => .int (i + j)) (tVar 1) (tC (.int 1))) (tCB (rLen G.K) (tCons (tFldQ G.K (tVar 0) "names") tNil))) (gName 4))
    (tSeq (tIfS (tTestQ (tOp rEq (tVar 2) (tC (.str "name")))) (tDrop (tMethQ G 4 "heard" (tVar 0) (tCons (tVar 4) (tCons (tVar 3) tNil)))) (tIfS (tTestQ (tOp rIsNq (tOp (rIxL G.K) (tFldQ G.K (tVar 0) "known") (tVar 4)) (tC .non))) (tSeq (tAsg (tVar 3) (gSub (tFldQ G.K (tVar 0) "known") (tVar 4) rSetL))
    (tDrop (tMethQ G 4 "put" (tVar 0) (tCons (tVar 4) (tCons (tC (.str "chosen")) (tCons (tVar 3) tNil)))))) tNext))
    (tRet (tVar 2)))))))
theorem dv_Choice_come {G : En} (W : Wd G) {qual : Str} {f : Addr} {cdv : Value} {A : Around} {outer : List Env} {s : Shared} {H : Hp} {E : XK} (hr : rm0 4 qual s_Choice_come f cdv A s) : PSs (cx0 G N_Choice_come qual s_Choice_come f cdv A outer s H E) (defBody s_Choice_come) (t_Choice_come G) :=
    (pss_cons (ps_expr (e_meth hr (pv 0) (pa_cons (pv 1) pa_nil)))
    (pss_cons (ps_if (b_cmp (op_eqD hr.units) (pe_ix ix_list (e_fld (pv 0)) (pv 1) (fun _ _ => rfl)) (e_lst pa_nil) (nomark _)) (pss_one ps_never) pss_nil)
    (pss_cons (ps_asg (e_bm PySem.F.plainAttrs_list PySem.F.slot_list_pop PySem.F.type_list_pop mt_popAt (pe_ix ix_list (e_fld (pv 0)) (pv 1) (fun _ _ => rfl)) (pa_cons pe_int pa_nil)) (pg_tup rfl (pgs_cons (pg_name (i := 2) sc_Choice_come.nd rfl (Or.inl rfl)) (pgs_cons (pg_name (i := 3) sc_Choice_come.nd rfl (Or.inl rfl)) pgs_nil))))
    (pss_cons (ps_set (i := 4) sc_Choice_come.nd rfl (Or.inl rfl) (pe_op op_mod (pe_op op_add (pv 1) pe_int) (pe_callB c_len (by rfl) W.z_len (by decide +kernel) (pa_cons (e_fld (pv 0)) pa_nil))))
    (pss_cons (ps_if (b_cmp op_eq (pv 2) pe_str (nomark _)) (pss_one (ps_expr (e_meth hr (pv 0) (pa_cons (pv 4) (pa_cons (pv 3) pa_nil))))) (pss_one (ps_if (b_cmp c_isN (pe_ix ix_list (e_fld (pv 0)) (pv 4) (fun _ _ => rfl)) pe_non (nomark _)) (pss_cons (ps_asg (pv 3) (pg_sub (e_fld (pv 0)) (pv 4) set_list))
    (pss_one (ps_expr (e_meth hr (pv 0) (pa_cons (pv 4) (pa_cons pe_str (pa_cons (pv 3) pa_nil))))))) pss_nil)))
    (pss_one (ps_ret (pv 2))))))))
theorem run_Choice_come {G : En} (W : Wd G) {sp : Sp} (len : ∀ vs H Q E, sp vs H Q E → vs.length = 2) (pure : ∀ vs H Q E, sp vs H Q E → t_Choice_come G { nx := fun _ H' => Q .non H', rt := Q } (start N_Choice_come vs) H) : MetG G 5 (cl_Choice G.K) "come" sp [] := by
  obtain ⟨fd, F⟩ := W.f_Choice_come
  exact ⟨⟨_, fd, ["self", "place"], [], W.c_Choice, W.m_Choice_come, fn_ok0 F sc_Choice_come len (fun _ _ _ _ _ _ hr => dv_Choice_come W hr) pure, (F.bindsN (ps := ["self", "place"]) fun _ _ _ _ _ _ us hl => match us, hl with | [_, _], _ => rfl), .nil⟩⟩
def tE_Choice_come (G : En) (Wx : WX) : TS :=
    (tSeq (tDrop (tMethW G 4 "look_place" (tVar 0) (tCons (tVar 1) tNil) Wx))
    (tSeq (tIfS (tTestQ (tOp (rEqD G.K) (tOp (rIxL G.K) (tFldQ G.K (tVar 0) "rows") (tVar 1)) (tLstQ tNil))) (tRaise (He.ga G.K "NoLetter") Wx) tNext)
    (tSeq (tAsg (tBMQ G.K "list" rPopAt (tOp (rIxL G.K) (tFldQ G.K (tVar 0) "rows") (tVar 1)) (tCons (tC (.int 0)) tNil)) (gTup G.K 2 (gCons (gName 2) (gCons (gName 3) gNil))))
    (tSeq (tAsg (tOp (rI (fun _ j => 0 < j) fun i j => .int (i % j)) (tOp (rI0 fun i j => .int (i + j)) (tVar 1) (tC (.int 1))) (tCB (rLen G.K) (tCons (tFldQ G.K (tVar 0) "names") tNil))) (gName 4))
    (tSeq (tIfS (tTestQ (tOp rEq (tVar 2) (tC (.str "name")))) (tDrop (tMethQ G 4 "heard" (tVar 0) (tCons (tVar 4) (tCons (tVar 3) tNil)))) (tIfS (tTestQ (tOp rIsNq (tOp (rIxL G.K) (tFldQ G.K (tVar 0) "known") (tVar 4)) (tC .non))) (tSeq (tAsg (tVar 3) (gSub (tFldQ G.K (tVar 0) "known") (tVar 4) rSetL))
    (tDrop (tMethQ G 4 "put" (tVar 0) (tCons (tVar 4) (tCons (tC (.str "chosen")) (tCons (tVar 3) tNil)))))) tNext))
    (tRet (tVar 2)))))))
theorem dvE_Choice_come {G : En} (W : Wd G) {qual : Str} {f : Addr} {cdv : Value} {A : Around} {outer : List Env} {s : Shared} {H : Hp} {E : XK} (hr : rm0 4 qual s_Choice_come f cdv A s) : PSs (cxE G N_Choice_come qual s_Choice_come f cdv A outer s H E) (defBody s_Choice_come) (tE_Choice_come G (WD E)) :=
    have tk : Takes (cxE G N_Choice_come qual s_Choice_come f cdv A outer s H E) (WD E) := takesE
    (pss_cons (ps_expr (e_methW hr tk (pv 0) (pa_cons (pv 1) pa_nil)))
    (pss_cons (ps_if (b_cmp (op_eqD hr.units) (pe_ix ix_list (e_fld (pv 0)) (pv 1) (fun _ _ => rfl)) (e_lst pa_nil) (nomark _)) (pss_one (s_raise rfl tk W.x_NoLetter W.g_NoLetter (by rfl))) pss_nil)
    (pss_cons (ps_asg (e_bm PySem.F.plainAttrs_list PySem.F.slot_list_pop PySem.F.type_list_pop mt_popAt (pe_ix ix_list (e_fld (pv 0)) (pv 1) (fun _ _ => rfl)) (pa_cons pe_int pa_nil)) (pg_tup rfl (pgs_cons (pg_name (i := 2) sc_Choice_come.nd rfl (Or.inl rfl)) (pgs_cons (pg_name (i := 3) sc_Choice_come.nd rfl (Or.inl rfl)) pgs_nil))))
    (pss_cons (ps_set (i := 4) sc_Choice_come.nd rfl (Or.inl rfl) (pe_op op_mod (pe_op op_add (pv 1) pe_int) (pe_callB c_len (by rfl) W.z_len (by decide +kernel) (pa_cons (e_fld (pv 0)) pa_nil))))
    (pss_cons (ps_if (b_cmp op_eq (pv 2) pe_str (nomark _)) (pss_one (ps_expr (e_meth hr (pv 0) (pa_cons (pv 4) (pa_cons (pv 3) pa_nil))))) (pss_one (ps_if (b_cmp c_isN (pe_ix ix_list (e_fld (pv 0)) (pv 4) (fun _ _ => rfl)) pe_non (nomark _)) (pss_cons (ps_asg (pv 3) (pg_sub (e_fld (pv 0)) (pv 4) set_list))
    (pss_one (ps_expr (e_meth hr (pv 0) (pa_cons (pv 4) (pa_cons pe_str (pa_cons (pv 3) pa_nil))))))) pss_nil)))
    (pss_one (ps_ret (pv 2))))))))
theorem runE_Choice_come {G : En} (W : Wd G) {sp : Sp} (len : ∀ vs H Q E, sp vs H Q E → vs.length = 2) (pure : ∀ vs H Q E, sp vs H Q E → tE_Choice_come G (WD E) { nx := fun _ H' => Q .non H', rt := Q } (start N_Choice_come vs) H) : MetE G 5 (cl_Choice G.K) "come" sp [] := by
  obtain ⟨fd, F⟩ := W.f_Choice_come
  exact ⟨⟨_, fd, ["self", "place"], [], W.c_Choice, W.m_Choice_come, fn_okE (t := tE_Choice_come G) F sc_Choice_come len (fun _ _ _ _ _ _ hr => dvE_Choice_come W hr) pure, (F.bindsN (ps := ["self", "place"]) fun _ _ _ _ _ _ us hl => match us, hl with | [_, _], _ => rfl), .nil⟩⟩
def N_Choice_heard : List Str := ["self", "place", "name", "mine"]
theorem sc_Choice_heard : FnScope N_Choice_heard ["self", "place", "name"] (defScope s_Choice_heard) := ⟨rfl, rfl, rfl, by decide +kernel, rfl, by decide +kernel, by decide +kernel⟩
def t_Choice_heard (G : En) : TS :=
    (tSeq (tAsg (tOp (rIxL G.K) (tFldQ G.K (tVar 0) "names") (tVar 1)) (gName 3))
    (tIfS (tTestQ (tOp rEq (tVar 2) (tVar 3))) (tSeq (tAsg (tVar 3) (gSub (tFldQ G.K (tVar 0) "known") (tVar 1) rSetL))
    (tDrop (tMethQ G 3 "put" (tVar 0) (tCons (tVar 1) (tCons (tC (.str "chosen")) (tCons (tVar 3) tNil)))))) (tIfS (tTestQ (tOp (rI0 fun i j => .bl (decide (j < i))) (tVar 2) (tVar 3))) (tSeq (tAsg (tC (.bl true)) (gSub (tFldQ G.K (tVar 0) "active") (tVar 1) rSetL))
    (tDrop (tMethQ G 3 "put" (tVar 0) (tCons (tVar 1) (tCons (tC (.str "name")) (tCons (tVar 2) tNil)))))) (tIfS (tNot (tTestQ (tOp (rIxL G.K) (tFldQ G.K (tVar 0) "active") (tVar 1)))) (tDrop (tMethQ G 3 "begin" (tVar 0) (tCons (tVar 1) tNil))) tNext))))
theorem dv_Choice_heard {G : En} (W : Wd G) {qual : Str} {f : Addr} {cdv : Value} {A : Around} {outer : List Env} {s : Shared} {H : Hp} {E : XK} (hr : rm0 3 qual s_Choice_heard f cdv A s) : PSs (cx0 G N_Choice_heard qual s_Choice_heard f cdv A outer s H E) (defBody s_Choice_heard) (t_Choice_heard G) :=
    (pss_cons (ps_set (i := 3) sc_Choice_heard.nd rfl (Or.inl rfl) (pe_ix ix_list (e_fld (pv 0)) (pv 1) (fun _ _ => rfl)))
    (pss_one (ps_if (b_cmp op_eq (pv 2) (pv 3) (nomark _)) (pss_cons (ps_asg (pv 3) (pg_sub (e_fld (pv 0)) (pv 1) set_list))
    (pss_one (ps_expr (e_meth hr (pv 0) (pa_cons (pv 1) (pa_cons pe_str (pa_cons (pv 3) pa_nil))))))) (pss_one (ps_if (b_cmp op_gt (pv 2) (pv 3) (nomark _)) (pss_cons (ps_asg pe_bl (pg_sub (e_fld (pv 0)) (pv 1) set_list))
    (pss_one (ps_expr (e_meth hr (pv 0) (pa_cons (pv 1) (pa_cons pe_str (pa_cons (pv 2) pa_nil))))))) (pss_one (ps_if (pt_not (b_val (pe_ix ix_list (e_fld (pv 0)) (pv 1) (fun _ _ => rfl)))) (pss_one (ps_expr (e_meth hr (pv 0) (pa_cons (pv 1) pa_nil)))) pss_nil)))))))
theorem run_Choice_heard {G : En} (W : Wd G) {sp : Sp} (len : ∀ vs H Q E, sp vs H Q E → vs.length = 3) (pure : ∀ vs H Q E, sp vs H Q E → t_Choice_heard G { nx := fun _ H' => Q .non H', rt := Q } (start N_Choice_heard vs) H) : MetG G 4 (cl_Choice G.K) "heard" sp [] := by
  obtain ⟨fd, F⟩ := W.f_Choice_heard
  exact ⟨⟨_, fd, ["self", "place", "name"], [], W.c_Choice, W.m_Choice_heard, fn_ok0 F sc_Choice_heard len (fun _ _ _ _ _ _ hr => dv_Choice_heard W hr) pure, (F.bindsN (ps := ["self", "place", "name"]) fun _ _ _ _ _ _ us hl => match us, hl with | [_, _, _], _ => rfl), .nil⟩⟩
def N_Choice_told : List Str := ["self", "place"]
theorem sc_Choice_told : FnScope N_Choice_told ["self", "place"] (defScope s_Choice_told) := ⟨rfl, rfl, rfl, by decide +kernel, rfl, by decide +kernel, by decide +kernel⟩
def t_Choice_told (G : En) : TS :=
    (tSeq (tDrop (tMethQ G 2 "look_place" (tVar 0) (tCons (tVar 1) tNil)))
    (tRet (tOp (rIxL G.K) (tFldQ G.K (tVar 0) "known") (tVar 1))))
theorem dv_Choice_told {G : En} (W : Wd G) {qual : Str} {f : Addr} {cdv : Value} {A : Around} {outer : List Env} {s : Shared} {H : Hp} {E : XK} (hr : rm0 2 qual s_Choice_told f cdv A s) : PSs (cx0 G N_Choice_told qual s_Choice_told f cdv A outer s H E) (defBody s_Choice_told) (t_Choice_told G) :=
    (pss_cons (ps_expr (e_meth hr (pv 0) (pa_cons (pv 1) pa_nil)))
    (pss_one (ps_ret (pe_ix ix_list (e_fld (pv 0)) (pv 1) (fun _ _ => rfl)))))
theorem run_Choice_told {G : En} (W : Wd G) {sp : Sp} (len : ∀ vs H Q E, sp vs H Q E → vs.length = 2) (pure : ∀ vs H Q E, sp vs H Q E → t_Choice_told G { nx := fun _ H' => Q .non H', rt := Q } (start N_Choice_told vs) H) : MetG G 3 (cl_Choice G.K) "told" sp [] := by
  obtain ⟨fd, F⟩ := W.f_Choice_told
  exact ⟨⟨_, fd, ["self", "place"], [], W.c_Choice, W.m_Choice_told, fn_ok0 F sc_Choice_told len (fun _ _ _ _ _ _ hr => dv_Choice_told W hr) pure, (F.bindsN (ps := ["self", "place"]) fun _ _ _ _ _ _ us hl => match us, hl with | [_, _], _ => rfl), .nil⟩⟩
def tE_Choice_told (G : En) (Wx : WX) : TS :=
    (tSeq (tDrop (tMethW G 2 "look_place" (tVar 0) (tCons (tVar 1) tNil) Wx))
    (tRet (tOp (rIxL G.K) (tFldQ G.K (tVar 0) "known") (tVar 1))))
theorem dvE_Choice_told {G : En} (W : Wd G) {qual : Str} {f : Addr} {cdv : Value} {A : Around} {outer : List Env} {s : Shared} {H : Hp} {E : XK} (hr : rm0 2 qual s_Choice_told f cdv A s) : PSs (cxE G N_Choice_told qual s_Choice_told f cdv A outer s H E) (defBody s_Choice_told) (tE_Choice_told G (WD E)) :=
    have tk : Takes (cxE G N_Choice_told qual s_Choice_told f cdv A outer s H E) (WD E) := takesE
    (pss_cons (ps_expr (e_methW hr tk (pv 0) (pa_cons (pv 1) pa_nil)))
    (pss_one (ps_ret (pe_ix ix_list (e_fld (pv 0)) (pv 1) (fun _ _ => rfl)))))
theorem runE_Choice_told {G : En} (W : Wd G) {sp : Sp} (len : ∀ vs H Q E, sp vs H Q E → vs.length = 2) (pure : ∀ vs H Q E, sp vs H Q E → tE_Choice_told G (WD E) { nx := fun _ H' => Q .non H', rt := Q } (start N_Choice_told vs) H) : MetE G 3 (cl_Choice G.K) "told" sp [] := by
  obtain ⟨fd, F⟩ := W.f_Choice_told
  exact ⟨⟨_, fd, ["self", "place"], [], W.c_Choice, W.m_Choice_told, fn_okE (t := tE_Choice_told G) F sc_Choice_told len (fun _ _ _ _ _ _ hr => dvE_Choice_told W hr) pure, (F.bindsN (ps := ["self", "place"]) fun _ _ _ _ _ _ us hl => match us, hl with | [_, _], _ => rfl), .nil⟩⟩
def N_Choice_letters : List Str := ["self"]
theorem sc_Choice_letters : FnScope N_Choice_letters ["self"] (defScope s_Choice_letters) := ⟨rfl, rfl, rfl, by decide +kernel, rfl, by decide +kernel, by decide +kernel⟩
def t_Choice_letters (G : En) : TS :=
    (tRet (tFldQ G.K (tVar 0) "sent"))
theorem dv_Choice_letters {G : En} (W : Wd G) {qual : Str} {f : Addr} {cdv : Value} {A : Around} {outer : List Env} {s : Shared} {H : Hp} {E : XK} (hr : rm0 0 qual s_Choice_letters f cdv A s) : PSs (cx0 G N_Choice_letters qual s_Choice_letters f cdv A outer s H E) (defBody s_Choice_letters) (t_Choice_letters G) :=
    (pss_one (ps_ret (e_fld (pv 0))))
theorem run_Choice_letters {G : En} (W : Wd G) {sp : Sp} (len : ∀ vs H Q E, sp vs H Q E → vs.length = 1) (pure : ∀ vs H Q E, sp vs H Q E → t_Choice_letters G { nx := fun _ H' => Q .non H', rt := Q } (start N_Choice_letters vs) H) : MetG G 1 (cl_Choice G.K) "letters" sp [] := by
  obtain ⟨fd, F⟩ := W.f_Choice_letters
  exact ⟨⟨_, fd, ["self"], [], W.c_Choice, W.m_Choice_letters, fn_ok0 F sc_Choice_letters len (fun _ _ _ _ _ _ hr => dv_Choice_letters W hr) pure, (F.bindsN (ps := ["self"]) fun _ _ _ _ _ _ us hl => match us, hl with | [_], _ => rfl), .nil⟩⟩
def N_Choice_ways : List Str := ["self", "place"]
theorem sc_Choice_ways : FnScope N_Choice_ways ["self"] (defScope s_Choice_ways) := ⟨rfl, rfl, rfl, by decide +kernel, rfl, by decide +kernel, by decide +kernel⟩
def t_Choice_ways (G : En) : TS :=
    (tRet (tLcQ (iRng1Q (tCons (tCB (rLen G.K) (tCons (tFldQ G.K (tVar 0) "rows") tNil)) tNil)) (gName 1) (tTestQ (tOp (rNeD G.K) (tOp (rIxL G.K) (tFldQ G.K (tVar 0) "rows") (tVar 1)) (tLstQ tNil))) (tVar 1) [1]))
theorem dv_Choice_ways {G : En} (W : Wd G) {qual : Str} {f : Addr} {cdv : Value} {A : Around} {outer : List Env} {s : Shared} {H : Hp} {E : XK} (hr : rm0 0 qual s_Choice_ways f cdv A s) : PSs (cx0 G N_Choice_ways qual s_Choice_ways f cdv A outer s H E) (defBody s_Choice_ways) (t_Choice_ways G) :=
    (pss_one (ps_ret (e_lc (own := [("place", 1)]) (g := (gName 1)) rfl sc_Choice_ways.nd (i_rng1 (by rfl) W.z_range (pa_cons (pe_callB c_len (by rfl) W.z_len (by decide +kernel) (pa_cons (e_fld (pv 0)) pa_nil)) pa_nil)) (blkOk_by (own := [("place", 1)]) (N := N_Choice_ways) (sc := defScope s_Choice_ways) (by decide +kernel)) (fun _ _ _ _ _ => (pg_name (i := 1) sc_Choice_ways.nd rfl (Or.inl rfl))) (fun _ _ _ _ _ => (pts_one (b_cmp (op_neD hr.units) (pe_ix ix_list (e_fld (pv 0)) (pv 1) (fun _ _ => rfl)) (e_lst pa_nil) (nomark _)))) (fun _ _ _ _ _ => (pv 1)))))
theorem run_Choice_ways {G : En} (W : Wd G) {sp : Sp} (len : ∀ vs H Q E, sp vs H Q E → vs.length = 1) (pure : ∀ vs H Q E, sp vs H Q E → t_Choice_ways G { nx := fun _ H' => Q .non H', rt := Q } (start N_Choice_ways vs) H) : MetG G 1 (cl_Choice G.K) "ways" sp [] := by
  obtain ⟨fd, F⟩ := W.f_Choice_ways
  exact ⟨⟨_, fd, ["self"], [], W.c_Choice, W.m_Choice_ways, fn_ok0 F sc_Choice_ways len (fun _ _ _ _ _ _ hr => dv_Choice_ways W hr) pure, (F.bindsN (ps := ["self"]) fun _ _ _ _ _ _ us hl => match us, hl with | [_], _ => rfl), .nil⟩⟩
def N__law_town : List Str := ["_law_script"]
theorem sc__law_town : FnScope N__law_town ["_law_script"] (defScope s__law_town) := ⟨rfl, rfl, rfl, by decide +kernel, rfl, by decide +kernel, by decide +kernel⟩
def t__law_town (G : En) : TS :=
    (tRet (tLstQ (tCons (tIf (tTestQ (tOp (rNeD G.K) (tVar 0) (tLstQ tNil))) (tCB (rListOf G.K) (tCons (tVar 0) tNil)) (tLstQ (tCons (tC (.int 0)) tNil))) (tCons (tC (.int 0)) tNil))))
theorem dv__law_town {G : En} (W : Wd G) {qual : Str} {f : Addr} {cdv : Value} {A : Around} {outer : List Env} {s : Shared} {H : Hp} {E : XK} (hr : rm0 0 qual s__law_town f cdv A s) : PSs (cx0 G N__law_town qual s__law_town f cdv A outer s H E) (defBody s__law_town) (t__law_town G) :=
    (pss_one (ps_ret (e_lst (pa_cons (pe_ifExp (b_cmp (op_neD hr.units) (pv 0) (e_lst pa_nil) (nomark _)) (pe_callTy c_list (by rfl) W.z_list (by decide +kernel) (pa_cons (pv 0) pa_nil)) (e_lst (pa_cons pe_int pa_nil))) (pa_cons pe_int pa_nil)))))
theorem run__law_town {G : En} (W : Wd G) {sp : Sp} (len : ∀ vs H Q E, sp vs H Q E → vs.length = 1) (pure : ∀ vs H Q E, sp vs H Q E → t__law_town G { nx := fun _ H' => Q .non H', rt := Q } (start N__law_town vs) H) : CalG G 1 "_law_town" sp [] := by
  obtain ⟨fd, F⟩ := W.f__law_town
  exact ⟨⟨_, fd, ["_law_script"], [], fn_ok0 F sc__law_town len (fun _ _ _ _ _ _ hr => dv__law_town W hr) pure, W.g__law_town, F.kp, (F.bindsN (ps := ["_law_script"]) fun _ _ _ _ _ _ us hl => match us, hl with | [_], _ => rfl), .nil⟩⟩
def N__law_draw : List Str := ["_law_town_here", "_law_many", "_law_cells", "_law_at", "_law_cell", "_law_mixed"]
theorem sc__law_draw : FnScope N__law_draw ["_law_town_here", "_law_many"] (defScope s__law_draw) := ⟨rfl, rfl, rfl, by decide +kernel, rfl, by decide +kernel, by decide +kernel⟩
def t__law_draw (G : En) : TS :=
    (tSeq (tAsg (tOp (rIxL G.K) (tVar 0) (tC (.int 0))) (gName 2))
    (tSeq (tAsg (tOp (rI0 fun i j => .int (i + j)) (tOp (rIxL G.K) (tVar 0) (tC (.int 1))) (tC (.int 1))) (gSub (tVar 0) (tC (.int 1)) rSetL))
    (tSeq (tAsg (tOp (rI (fun _ j => 0 < j) fun i j => .int (i % j)) (tOp (rIxL G.K) (tVar 0) (tC (.int 1))) (tCB (rLen G.K) (tCons (tVar 2) tNil))) (gName 3))
    (tSeq (tAsg (tOp (rIxL G.K) (tVar 2) (tVar 3)) (gName 4))
    (tSeq (tIfS (tTestQ (tOp (rI0 fun i j => .bl (decide (j ≤ i))) (tVar 4) (tC (.int 1000000000000000000)))) (tSeq (tAsg (tOp (rI CDiv fun i j => .int (i / j)) (tVar 4) (tVar 1)) (gSub (tVar 2) (tVar 3) rSetL))
    (tRet (tOp (rI (fun _ j => 0 < j) fun i j => .int (i % j)) (tVar 4) (tVar 1)))) tNext)
    (tSeq (tAsg (tOp (rI (fun _ j => 0 < j) fun i j => .int (i % j)) (tOp (rI0 fun i j => .int (i + j)) (tVar 4) (tOp (rI CMul fun i j => .int (i * j)) (tC (.int 104729)) (tOp (rIxL G.K) (tVar 0) (tC (.int 1))))) (tC (.int 4294967291))) (gName 5))
    (tSeq (tAsg (tOp (rI (fun _ j => 0 < j) fun i j => .int (i % j)) (tOp (rI CPow fun i j => .int (i ^ j.toNat)) (tVar 5) (tC (.int 5))) (tC (.int 4294967279))) (gName 5))
    (tRet (tOp (rI (fun _ j => 0 < j) fun i j => .int (i % j)) (tOp (rI CDiv fun i j => .int (i / j)) (tOp (rI (fun _ j => 0 < j) fun i j => .int (i % j)) (tOp (rI0 fun i j => .int (i + j)) (tOp (rI CMul fun i j => .int (i * j)) (tOp (rI CDiv fun i j => .int (i / j)) (tVar 5) (tC (.int 64))) (tC (.int 69621))) (tVar 5)) (tC (.int 4294967231))) (tC (.int 8))) (tVar 1))))))))))
theorem dv__law_draw {G : En} (W : Wd G) {qual : Str} {f : Addr} {cdv : Value} {A : Around} {outer : List Env} {s : Shared} {H : Hp} {E : XK} (hr : rm0 0 qual s__law_draw f cdv A s) : PSs (cx0 G N__law_draw qual s__law_draw f cdv A outer s H E) (defBody s__law_draw) (t__law_draw G) :=
    (pss_cons (ps_set (i := 2) sc__law_draw.nd rfl (Or.inl rfl) (pe_ix ix_list (pv 0) pe_int (fun _ _ => rfl)))
    (pss_cons (ps_asg (pe_op op_add (pe_ix ix_list (pv 0) pe_int (fun _ _ => rfl)) pe_int) (pg_sub (pv 0) pe_int set_list))
    (pss_cons (ps_set (i := 3) sc__law_draw.nd rfl (Or.inl rfl) (pe_op op_mod (pe_ix ix_list (pv 0) pe_int (fun _ _ => rfl)) (pe_callB c_len (by rfl) W.z_len (by decide +kernel) (pa_cons (pv 2) pa_nil))))
    (pss_cons (ps_set (i := 4) sc__law_draw.nd rfl (Or.inl rfl) (pe_ix ix_list (pv 2) (pv 3) (fun _ _ => rfl)))
    (pss_cons (ps_if (b_cmp op_ge (pv 4) pe_int (nomark _)) (pss_cons (ps_asg (pe_op op_fdiv (pv 4) (pv 1)) (pg_sub (pv 2) (pv 3) set_list))
    (pss_one (ps_ret (pe_op op_mod (pv 4) (pv 1))))) pss_nil)
    (pss_cons (ps_set (i := 5) sc__law_draw.nd rfl (Or.inl rfl) (pe_op op_mod (pe_op op_add (pv 4) (pe_op op_mul pe_int (pe_ix ix_list (pv 0) pe_int (fun _ _ => rfl)))) pe_int))
    (pss_cons (ps_set (i := 5) sc__law_draw.nd rfl (Or.inl rfl) (pe_op op_mod (pe_op op_pow (pv 5) pe_int) pe_int))
    (pss_one (ps_ret (pe_op op_mod (pe_op op_fdiv (pe_op op_mod (pe_op op_add (pe_op op_mul (pe_op op_fdiv (pv 5) pe_int) pe_int) (pv 5)) pe_int) pe_int) (pv 1)))))))))))
theorem run__law_draw {G : En} (W : Wd G) {sp : Sp} (len : ∀ vs H Q E, sp vs H Q E → vs.length = 2) (pure : ∀ vs H Q E, sp vs H Q E → t__law_draw G { nx := fun _ H' => Q .non H', rt := Q } (start N__law_draw vs) H) : CalG G 1 "_law_draw" sp [] := by
  obtain ⟨fd, F⟩ := W.f__law_draw
  exact ⟨⟨_, fd, ["_law_town_here", "_law_many"], [], fn_ok0 F sc__law_draw len (fun _ _ _ _ _ _ hr => dv__law_draw W hr) pure, W.g__law_draw, F.kp, (F.bindsN (ps := ["_law_town_here", "_law_many"]) fun _ _ _ _ _ _ us hl => match us, hl with | [_, _], _ => rfl), .nil⟩⟩
def N__law_pick : List Str := ["_law_town_here", "_law_some"]
theorem sc__law_pick : FnScope N__law_pick ["_law_town_here", "_law_some"] (defScope s__law_pick) := ⟨rfl, rfl, rfl, by decide +kernel, rfl, by decide +kernel, by decide +kernel⟩
def t__law_pick (G : En) : TS :=
    (tRet (tOp (rIxL G.K) (tVar 1) (tCallQ G 1 "_law_draw" (tCons (tVar 0) (tCons (tCB (rLen G.K) (tCons (tVar 1) tNil)) tNil)))))
theorem dv__law_pick {G : En} (W : Wd G) {qual : Str} {f : Addr} {cdv : Value} {A : Around} {outer : List Env} {s : Shared} {H : Hp} {E : XK} (hr : rm0 1 qual s__law_pick f cdv A s) : PSs (cx0 G N__law_pick qual s__law_pick f cdv A outer s H E) (defBody s__law_pick) (t__law_pick G) :=
    (pss_one (ps_ret (pe_ix ix_list (pv 1) (e_call hr (by rfl) (pa_cons (pv 0) (pa_cons (pe_callB c_len (by rfl) W.z_len (by decide +kernel) (pa_cons (pv 1) pa_nil)) pa_nil))) (fun _ _ => rfl))))
theorem run__law_pick {G : En} (W : Wd G) {sp : Sp} (len : ∀ vs H Q E, sp vs H Q E → vs.length = 2) (pure : ∀ vs H Q E, sp vs H Q E → t__law_pick G { nx := fun _ H' => Q .non H', rt := Q } (start N__law_pick vs) H) : CalG G 2 "_law_pick" sp [] := by
  obtain ⟨fd, F⟩ := W.f__law_pick
  exact ⟨⟨_, fd, ["_law_town_here", "_law_some"], [], fn_ok0 F sc__law_pick len (fun _ _ _ _ _ _ hr => dv__law_pick W hr) pure, W.g__law_pick, F.kp, (F.bindsN (ps := ["_law_town_here", "_law_some"]) fun _ _ _ _ _ _ us hl => match us, hl with | [_, _], _ => rfl), .nil⟩⟩
def N__law_refusal : List Str := ["_law_caught", "_law_kinds", "_law_words"]
theorem sc__law_refusal : FnScope N__law_refusal ["_law_caught"] (defScope s__law_refusal) := ⟨rfl, rfl, rfl, by decide +kernel, rfl, by decide +kernel, by decide +kernel⟩
def t__law_refusal (G : En) : TS :=
    (tSeq (tAsg (tLstQ (tCons (tCB (rIsX G.K) (tCons (tVar 0) (tCons (tC (.ref (cl_BadNumber G.K))) tNil))) (tCons (tCB (rIsX G.K) (tCons (tVar 0) (tCons (tC (.ref (cl_BadStart G.K))) tNil))) (tCons (tCB (rIsX G.K) (tCons (tVar 0) (tCons (tC (.ref (cl_NoHand G.K))) tNil))) tNil)))) (gName 1))
    (tSeq (tAsg (tOp rCat (tVar 1) (tLstQ (tCons (tCB (rIsX G.K) (tCons (tVar 0) (tCons (tC (.ref (cl_Asleep G.K))) tNil))) (tCons (tCB (rIsX G.K) (tCons (tVar 0) (tCons (tC (.ref (cl_Awake G.K))) tNil))) (tCons (tCB (rIsX G.K) (tCons (tVar 0) (tCons (tC (.ref (cl_TooMuch G.K))) tNil))) tNil))))) (gName 1))
    (tSeq (tAsg (tOp rCat (tVar 1) (tLstQ (tCons (tCB (rIsX G.K) (tCons (tVar 0) (tCons (tC (.ref (cl_NoLetter G.K))) tNil))) (tCons (tCB (rIsX G.K) (tCons (tVar 0) (tCons (tC (.ref (cl_NotNow G.K))) tNil))) (tCons (tCB (rIsX G.K) (tCons (tVar 0) (tCons (tC (.ref (cl_BadStory G.K))) tNil))) tNil))))) (gName 1))
    (tSeq (tIfS (tOr (tTestQ (tOp rNe (tBMQ G.K "list" (rCnt G.K) (tVar 1) (tCons (tC (.bl true)) tNil)) (tC (.int 1)))) (tOr (tNot (tTestQ (tCB (rIsX G.K) (tCons (tVar 0) (tCons (tC (.ref (cl_NetError G.K))) tNil))))) (tNot (tTestQ (tCB (rIsX G.K) (tCons (tVar 0) (tCons (tC (.ty "ValueError")) tNil))))))) (tRet (tC (.str "odd"))) tNext)
    (tSeq (tAsg (tLstQ (tCons (tC (.str "number")) (tCons (tC (.str "start")) (tCons (tC (.str "hand")) (tCons (tC (.str "asleep")) (tCons (tC (.str "awake")) (tCons (tC (.str "much")) (tCons (tC (.str "letter")) (tCons (tC (.str "now")) (tCons (tC (.str "story")) tNil)))))))))) (gName 2))
    (tRet (tOp (rIxL G.K) (tVar 2) (tBMQ G.K "list" (rIndex G.K) (tVar 1) (tCons (tC (.bl true)) tNil)))))))))
theorem dv__law_refusal {G : En} (W : Wd G) {qual : Str} {f : Addr} {cdv : Value} {A : Around} {outer : List Env} {s : Shared} {H : Hp} {E : XK} (hr : rm0 0 qual s__law_refusal f cdv A s) : PSs (cx0 G N__law_refusal qual s__law_refusal f cdv A outer s H E) (defBody s__law_refusal) (t__law_refusal G) :=
    (pss_cons (ps_set (i := 1) sc__law_refusal.nd rfl (Or.inl rfl) (e_lst (pa_cons (pe_callB c_isX (by rfl) W.z_isinstance (by decide +kernel) (pa_cons (pv 0) (pa_cons (e_cls (by rfl) W.g_BadNumber) pa_nil))) (pa_cons (pe_callB c_isX (by rfl) W.z_isinstance (by decide +kernel) (pa_cons (pv 0) (pa_cons (e_cls (by rfl) W.g_BadStart) pa_nil))) (pa_cons (pe_callB c_isX (by rfl) W.z_isinstance (by decide +kernel) (pa_cons (pv 0) (pa_cons (e_cls (by rfl) W.g_NoHand) pa_nil))) pa_nil)))))
    (pss_cons (ps_set (i := 1) sc__law_refusal.nd rfl (Or.inl rfl) (pe_op op_cat (pv 1) (e_lst (pa_cons (pe_callB c_isX (by rfl) W.z_isinstance (by decide +kernel) (pa_cons (pv 0) (pa_cons (e_cls (by rfl) W.g_Asleep) pa_nil))) (pa_cons (pe_callB c_isX (by rfl) W.z_isinstance (by decide +kernel) (pa_cons (pv 0) (pa_cons (e_cls (by rfl) W.g_Awake) pa_nil))) (pa_cons (pe_callB c_isX (by rfl) W.z_isinstance (by decide +kernel) (pa_cons (pv 0) (pa_cons (e_cls (by rfl) W.g_TooMuch) pa_nil))) pa_nil))))))
    (pss_cons (ps_set (i := 1) sc__law_refusal.nd rfl (Or.inl rfl) (pe_op op_cat (pv 1) (e_lst (pa_cons (pe_callB c_isX (by rfl) W.z_isinstance (by decide +kernel) (pa_cons (pv 0) (pa_cons (e_cls (by rfl) W.g_NoLetter) pa_nil))) (pa_cons (pe_callB c_isX (by rfl) W.z_isinstance (by decide +kernel) (pa_cons (pv 0) (pa_cons (e_cls (by rfl) W.g_NotNow) pa_nil))) (pa_cons (pe_callB c_isX (by rfl) W.z_isinstance (by decide +kernel) (pa_cons (pv 0) (pa_cons (e_cls (by rfl) W.g_BadStory) pa_nil))) pa_nil))))))
    (pss_cons (ps_if (PW.pt (pw_or (b_cmp op_ne (e_bm PySem.F.plainAttrs_list PySem.F.slot_list_count PySem.F.type_list_count mt_cnt (pv 1) (pa_cons pe_bl pa_nil)) pe_int (nomark _)) (pw_or (pt_not (b_val (pe_callB c_isX (by rfl) W.z_isinstance (by decide +kernel) (pa_cons (pv 0) (pa_cons (e_cls (by rfl) W.g_NetError) pa_nil))))) (pw_or1 (pt_not (b_val (pe_callB c_isX (by rfl) W.z_isinstance (by decide +kernel) (pa_cons (pv 0) (pa_cons (e_ty (by rfl) W.z_ValueError (by decide +kernel)) pa_nil))))))))) (pss_one (ps_ret pe_str)) pss_nil)
    (pss_cons (ps_set (i := 2) sc__law_refusal.nd rfl (Or.inl rfl) (e_lst (pa_cons pe_str (pa_cons pe_str (pa_cons pe_str (pa_cons pe_str (pa_cons pe_str (pa_cons pe_str (pa_cons pe_str (pa_cons pe_str (pa_cons pe_str pa_nil)))))))))))
    (pss_one (ps_ret (pe_ix ix_list (pv 2) (e_bm PySem.F.plainAttrs_list PySem.F.slot_list_index PySem.F.type_list_index mt_index (pv 1) (pa_cons pe_bl pa_nil)) (fun _ _ => rfl)))))))))
theorem run__law_refusal {G : En} (W : Wd G) {sp : Sp} (len : ∀ vs H Q E, sp vs H Q E → vs.length = 1) (pure : ∀ vs H Q E, sp vs H Q E → t__law_refusal G { nx := fun _ H' => Q .non H', rt := Q } (start N__law_refusal vs) H) : CalG G 1 "_law_refusal" sp [] := by
  obtain ⟨fd, F⟩ := W.f__law_refusal
  exact ⟨⟨_, fd, ["_law_caught"], [], fn_ok0 F sc__law_refusal len (fun _ _ _ _ _ _ hr => dv__law_refusal W hr) pure, W.g__law_refusal, F.kp, (F.bindsN (ps := ["_law_caught"]) fun _ _ _ _ _ _ us hl => match us, hl with | [_], _ => rfl), .nil⟩⟩
def N__law_did : List Str := ["_law_net", "_law_kind", "_law_thing", "_law_caught", "e"]
theorem sc__law_did : FnScope N__law_did ["_law_net", "_law_kind", "_law_thing"] (defScope s__law_did) := ⟨rfl, rfl, rfl, by decide +kernel, rfl, by decide +kernel, by decide +kernel⟩
def t__law_did (G : En) : TS :=
    (tSeq (tAsg (tC .non) (gName 3))
    (tSeq (tTry G.K W0 [(.ref (He.ga G.K "NetError"), 4, fun a cls d => (tAsg (tVar 4) (gName 3)))] (fun Wx => (tIfS (tTestQ (tOp rEq (tVar 1) (tC (.int 0)))) (tDrop (tMethW G 5 "begin" (tVar 0) (tCons (tVar 2) tNil) Wx)) (tIfS (tTestQ (tOp rEq (tVar 1) (tC (.int 1)))) (tDrop (tMethW G 5 "come" (tVar 0) (tCons (tVar 2) tNil) Wx)) (tIfS (tTestQ (tOp rEq (tVar 1) (tC (.int 2)))) (tDrop (tMethW G 5 "told" (tVar 0) (tCons (tVar 2) tNil) Wx)) (tDrop (tMakeW G 5 "Choice" (tCons (tVar 2) tNil) Wx)))))))
    (tRet (tIf (tTestQ (tOp rIsNq (tVar 3) (tC .non))) (tC (.str "told")) (tCallQ G 5 "_law_refusal" (tCons (tVar 3) tNil))))))
theorem dv__law_did {G : En} (W : Wd G) {qual : Str} {f : Addr} {cdv : Value} {A : Around} {outer : List Env} {s : Shared} {H : Hp} {E : XK} (hr : rm0 5 qual s__law_did f cdv A s) : PSs (cx0 G N__law_did qual s__law_did f cdv A outer s H E) (defBody s__law_did) (t__law_did G) :=
    (pss_cons (ps_set (i := 3) sc__law_did.nd rfl (Or.inl rfl) pe_non)
    (pss_cons (ps_tryN rfl rfl sc__law_did.nd rfl takesW0 (fun Wx pn xe tk po => (pss_one (ps_if (b_cmp op_eq (pv 1) pe_int (nomark _)) (pss_one (ps_expr (e_methW hr tk (pv 0) (pa_cons (pv 2) pa_nil)))) (pss_one (ps_if (b_cmp op_eq (pv 1) pe_int (nomark _)) (pss_one (ps_expr (e_methW hr tk (pv 0) (pa_cons (pv 2) pa_nil)))) (pss_one (ps_if (b_cmp op_eq (pv 1) pe_int (nomark _)) (pss_one (ps_expr (e_methW hr tk (pv 0) (pa_cons (pv 2) pa_nil)))) (pss_one (ps_expr (e_makeW hr (by rfl) tk (pa_cons (pv 2) pa_nil))))))))))) (.cons ⟨⟨_, _, _, _, _, _, rfl, ⟨by rfl, by decide, .inl W.g_NetError⟩, rfl, rfl, fun a oe cls d pn hz hf => (pss_one (ps_set (i := 3) sc__law_did.nd rfl (Or.inl rfl) (pv 4)))⟩⟩ .nil))
    (pss_one (ps_ret (pe_ifExp (b_cmp c_isN (pv 3) pe_non (nomark _)) pe_str (e_call hr (by rfl) (pa_cons (pv 3) pa_nil)))))))
theorem run__law_did {G : En} (W : Wd G) {sp : Sp} (len : ∀ vs H Q E, sp vs H Q E → vs.length = 3) (pure : ∀ vs H Q E, sp vs H Q E → t__law_did G { nx := fun _ H' => Q .non H', rt := Q } (start N__law_did vs) H) : CalG G 6 "_law_did" sp [] := by
  obtain ⟨fd, F⟩ := W.f__law_did
  exact ⟨⟨_, fd, ["_law_net", "_law_kind", "_law_thing"], [], fn_ok0 F sc__law_did len (fun _ _ _ _ _ _ hr => dv__law_did W hr) pure, W.g__law_did, F.kp, (F.bindsN (ps := ["_law_net", "_law_kind", "_law_thing"]) fun _ _ _ _ _ _ us hl => match us, hl with | [_, _, _], _ => rfl), .nil⟩⟩
def N_law : List Str := ["_law_script", "_law_town_here", "_law_many", "_law_names", "_law_k", "_law_odd", "_law_bad", "_law_net", "_law_place", "_law_kind", "_law_other", "_law_turn"]
theorem sc_law : FnScope N_law ["_law_script"] (defScope s_law) := ⟨rfl, rfl, rfl, by decide +kernel, rfl, by decide +kernel, by decide +kernel⟩
def t_law (G : En) : TS :=
    (tSeq (tAsg (tCallQ G 6 "_law_town" (tCons (tVar 0) tNil)) (gName 1))
    (tSeq (tAsg (tOp (rI0 fun i j => .int (i + j)) (tC (.int 2)) (tCallQ G 6 "_law_draw" (tCons (tVar 1) (tCons (tC (.int 9)) tNil)))) (gName 2))
    (tSeq (tAsg (tLcQ (iRng1Q (tCons (tVar 2) tNil)) (gName 4) tYes (tOp (rI0 fun i j => .int (i + j)) (tOp (rI CMul fun i j => .int (i * j)) (tC (.int 7)) (tVar 4)) (tCallQ G 6 "_law_draw" (tCons (tVar 1) (tCons (tC (.int 7)) tNil)))) [4]) (gName 3))
    (tSeq (tAsg (tCallQ G 6 "_law_pick" (tCons (tVar 1) (tCons (tLstQ (tCons (tC (.int 1000)) (tCons (tOp (rI0 fun i j => .int (i - j)) (tC (.int 0)) (tC (.int 1))) (tCons (tC (.bl true)) (tCons (tC .non) (tCons (tC (.str "0")) (tCons (tLstQ (tCons (tC (.int 1)) tNil)) (tCons (tOp (rIxL G.K) (tVar 3) (tC (.int 0))) tNil)))))))) tNil))) (gName 5))
    (tSeq (tForQ (iListQ G.K (tLstQ (tCons (tOp rCat (tSl (rSlL G.K) (tVar 3) tNoPart (tPart (tUn (rU fun i => .int (-i)) (tC (.int 1))))) (tLstQ (tCons (tVar 5) tNil))) (tCons (tSl (rSlL G.K) (tVar 3) tNoPart (tPart (tC (.int 1)))) (tCons (tLstQ tNil) (tCons (tLRg (tC (.int 11))) (tCons (tCB (fun xs H Q => ∃ p ys, xs = [V.ref p] ∧ ((SqL G.K H p ys ∧ ∀ l, H l = none → Q (V.ref l) (upd H l (.tup ys))) ∨ (SqT G.K H p ys ∧ Q (V.ref p) H))) (tCons (tVar 3) tNil)) (tCons (tC .non) (tCons (tC (.int 5)) (tCons (tC (.str "ab")) tNil)))))))))) (gName 6) (tIfS (tTestQ (tOp rNe (tCallQ G 6 "_law_did" (tCons (tC .non) (tCons (tC (.int 3)) (tCons (tVar 6) tNil)))) (tC (.str "number")))) (tRet (tC (.bl false))) tNext))
    (tSeq (tIfS (tOr (tTestQ (tOp rNe (tCallQ G 6 "_law_did" (tCons (tC .non) (tCons (tC (.int 3)) (tCons (tLRg (tC (.int 10))) tNil)))) (tC (.str "told")))) (tTestQ (tOp rNe (tCallQ G 6 "_law_did" (tCons (tC .non) (tCons (tC (.int 3)) (tCons (tLstQ (tCons (tC (.int 999)) (tCons (tC (.int 0)) tNil))) tNil)))) (tC (.str "told"))))) (tRet (tC (.bl false))) tNext)
    (tSeq (tAsg (tMakeQ G 6 "Choice" (tCons (tVar 3) tNil)) (gName 7))
    (tSeq (tAsg (tCallQ G 6 "_law_draw" (tCons (tVar 1) (tCons (tVar 2) tNil))) (gName 8))
    (tSeq (tForQ (iListQ G.K (tLstQ (tCons (tVar 2) (tCons (tOp (rI0 fun i j => .int (i - j)) (tC (.int 0)) (tC (.int 1))) (tCons (tC (.bl true)) (tCons (tC .non) (tCons (tC (.str "0")) (tCons (tLstQ (tCons (tC (.int 0)) tNil)) tNil)))))))) (gName 6) (tIfS (tTestQ (tOp (rNeD G.K) (tLcQ (iRng1Q (tCons (tC (.int 3)) tNil)) (gName 9) tYes (tCallQ G 6 "_law_did" (tCons (tVar 7) (tCons (tVar 9) (tCons (tVar 6) tNil)))) [9]) (tOp rRep (tLstQ (tCons (tC (.str "hand")) tNil)) (tC (.int 3))))) (tRet (tC (.bl false))) tNext))
    (tSeq (tIfS (tOr (tTestQ (tOp rNe (tCallQ G 6 "_law_did" (tCons (tVar 7) (tCons (tC (.int 1)) (tCons (tVar 8) tNil)))) (tC (.str "letter")))) (tOr (tTestQ (tOp rNe (tCallQ G 6 "_law_did" (tCons (tVar 7) (tCons (tC (.int 0)) (tCons (tVar 8) tNil)))) (tC (.str "told")))) (tTestQ (tOp rNe (tCallQ G 6 "_law_did" (tCons (tVar 7) (tCons (tC (.int 0)) (tCons (tVar 8) tNil)))) (tC (.str "now")))))) (tRet (tC (.bl false))) tNext)
    (tSeq (tAsg (tOp (rI (fun _ j => 0 < j) fun i j => .int (i % j)) (tOp (rI0 fun i j => .int (i + j)) (tVar 8) (tC (.int 1))) (tVar 2)) (gName 10))
    (tSeq (tIfS (tOr (tTestQ (tOp rNe (tMethQ G 6 "letters" (tVar 7) tNil) (tC (.int 1)))) (tOr (tTestQ (tOp (rNeD G.K) (tMethQ G 6 "ways" (tVar 7) tNil) (tLstQ (tCons (tVar 8) tNil)))) (tTestQ (tOp rNe (tCallQ G 6 "_law_did" (tCons (tVar 7) (tCons (tC (.int 1)) (tCons (tVar 10) tNil)))) (tC (.str "letter")))))) (tRet (tC (.bl false))) tNext)
    (tSeq (tForQ (iRng1Q (tCons (tC (.int 200)) tNil)) (gName 11) (tSeq (tIfS (tTestQ (tOp (rEqD G.K) (tMethQ G 6 "ways" (tVar 7) tNil) (tLstQ tNil))) tBreak tNext)
    (tDrop (tMethQ G 6 "come" (tVar 7) (tCons (tCallQ G 6 "_law_pick" (tCons (tVar 1) (tCons (tMethQ G 6 "ways" (tVar 7) tNil) tNil))) tNil)))))
    (tSeq (tIfS (tTestQ (tOp (rNeD G.K) (tLcQ (iRng1Q (tCons (tVar 2) tNil)) (gName 4) tYes (tMethQ G 6 "told" (tVar 7) (tCons (tVar 4) tNil)) [4]) (tOp rRep (tLstQ (tCons (tCB (rMax G.K) (tCons (tVar 3) tNil)) tNil)) (tVar 2)))) (tRet (tC (.bl false))) tNext)
    (tRet (tAndVQ (tOp (rEqD G.K) (tLcQ (iRng1Q (tCons (tVar 2) tNil)) (gName 4) tYes (tCallQ G 6 "_law_did" (tCons (tVar 7) (tCons (tC (.int 0)) (tCons (tVar 4) tNil)))) [4]) (tOp rRep (tLstQ (tCons (tC (.str "now")) tNil)) (tVar 2))) (tOp (rEqD G.K) (tMethQ G 6 "ways" (tVar 7) tNil) (tLstQ tNil))))))))))))))))))
theorem dv_law {G : En} (W : Wd G) {qual : Str} {f : Addr} {cdv : Value} {A : Around} {outer : List Env} {s : Shared} {H : Hp} {E : XK} (hr : rm0 6 qual s_law f cdv A s) : PSs (cx0 G N_law qual s_law f cdv A outer s H E) (defBody s_law) (t_law G) :=
    (pss_cons (ps_set (i := 1) sc_law.nd rfl (Or.inr rfl) (e_call hr (by rfl) (pa_cons (pv 0) pa_nil)))
    (pss_cons (ps_set (i := 2) sc_law.nd rfl (Or.inl rfl) (pe_op op_add pe_int (e_call hr (by rfl) (pa_cons (pv 1) (pa_cons pe_int pa_nil)))))
    (pss_cons (s_setLc (i := 3) (own := [("_law_k", 4)]) (g := (gName 4)) rfl sc_law.nd rfl rfl (sw_true rfl rfl rfl (by decide +kernel)) (i_rng1 (by rfl) W.z_range (pa_cons (pv 2) pa_nil)) (blkOk_by (own := [("_law_k", 4)]) (N := N_law) (sc := defScope s_law) (by decide +kernel)) (fun _ _ _ _ _ => (pg_name (i := 4) sc_law.nd rfl (Or.inl rfl))) (fun _ _ _ _ _ => pts_nil) (fun _ _ _ _ _ => (pe_op op_add (pe_op op_mul pe_int (pv 4)) (e_call hr (by rfl) (pa_cons (pv 1) (pa_cons pe_int pa_nil))))))
    (pss_cons (ps_set (i := 5) sc_law.nd rfl (Or.inl rfl) (e_call hr (by rfl) (pa_cons (pv 1) (pa_cons (e_lst (pa_cons pe_int (pa_cons (pe_op op_sub pe_int pe_int) (pa_cons pe_bl (pa_cons pe_non (pa_cons pe_str (pa_cons (e_lst (pa_cons pe_int pa_nil)) (pa_cons (pe_ix ix_list (pv 3) pe_int (fun _ _ => rfl)) pa_nil)))))))) pa_nil))))
    (pss_cons (s_for PassesOwn.never rfl (i_list (e_lst (pa_cons (pe_op op_cat (pe_slice sl_list (pv 3) po_none (po_some (pe_un un_neg pe_int))) (e_lst (pa_cons (pv 5) pa_nil))) (pa_cons (pe_slice sl_list (pv 3) po_none (po_some pe_int)) (pa_cons (e_lst pa_nil) (pa_cons (e_lrg rfl (by rfl) W.z_list (by rfl) W.z_range pe_int) (pa_cons (pe_callTy call_tuple_of (by rfl) W.z_tuple (by decide +kernel) (pa_cons (pv 3) pa_nil)) (pa_cons pe_non (pa_cons pe_int (pa_cons pe_str pa_nil)))))))))) (pg_name (i := 6) sc_law.nd rfl (Or.inr rfl)) (pss_one (ps_if (b_cmp op_ne (e_call hr (by rfl) (pa_cons pe_non (pa_cons pe_int (pa_cons (pv 6) pa_nil)))) pe_str (nomark _)) (pss_one (ps_ret pe_bl)) pss_nil)))
    (pss_cons (ps_if (PW.pt (pw_or (b_cmp op_ne (e_call hr (by rfl) (pa_cons pe_non (pa_cons pe_int (pa_cons (e_lrg rfl (by rfl) W.z_list (by rfl) W.z_range pe_int) pa_nil)))) pe_str (nomark _)) (pw_or1 (b_cmp op_ne (e_call hr (by rfl) (pa_cons pe_non (pa_cons pe_int (pa_cons (e_lst (pa_cons pe_int (pa_cons pe_int pa_nil))) pa_nil)))) pe_str (nomark _))))) (pss_one (ps_ret pe_bl)) pss_nil)
    (pss_cons (ps_set (i := 7) sc_law.nd rfl (Or.inr rfl) (e_make hr (by rfl) (pa_cons (pv 3) pa_nil)))
    (pss_cons (ps_set (i := 8) sc_law.nd rfl (Or.inl rfl) (e_call hr (by rfl) (pa_cons (pv 1) (pa_cons (pv 2) pa_nil))))
    (pss_cons (s_for PassesOwn.never rfl (i_list (e_lst (pa_cons (pv 2) (pa_cons (pe_op op_sub pe_int pe_int) (pa_cons pe_bl (pa_cons pe_non (pa_cons pe_str (pa_cons (e_lst (pa_cons pe_int pa_nil)) pa_nil)))))))) (pg_name (i := 6) sc_law.nd rfl (Or.inr rfl)) (pss_one (ps_if (b_cmp (op_neD hr.units) (e_lc (own := [("_law_kind", 9)]) (g := (gName 9)) rfl sc_law.nd (i_rng1 (by rfl) W.z_range (pa_cons pe_int pa_nil)) (blkOk_by (own := [("_law_kind", 9)]) (N := N_law) (sc := defScope s_law) (by decide +kernel)) (fun _ _ _ _ _ => (pg_name (i := 9) sc_law.nd rfl (Or.inl rfl))) (fun _ _ _ _ _ => pts_nil) (fun _ _ _ _ _ => (e_call hr (by rfl) (pa_cons (pv 7) (pa_cons (pv 9) (pa_cons (pv 6) pa_nil)))))) (pe_op op_rep (e_lst (pa_cons pe_str pa_nil)) pe_int) (nomark _)) (pss_one (ps_ret pe_bl)) pss_nil)))
    (pss_cons (ps_if (PW.pt (pw_or (b_cmp op_ne (e_call hr (by rfl) (pa_cons (pv 7) (pa_cons pe_int (pa_cons (pv 8) pa_nil)))) pe_str (nomark _)) (pw_or (b_cmp op_ne (e_call hr (by rfl) (pa_cons (pv 7) (pa_cons pe_int (pa_cons (pv 8) pa_nil)))) pe_str (nomark _)) (pw_or1 (b_cmp op_ne (e_call hr (by rfl) (pa_cons (pv 7) (pa_cons pe_int (pa_cons (pv 8) pa_nil)))) pe_str (nomark _)))))) (pss_one (ps_ret pe_bl)) pss_nil)
    (pss_cons (ps_set (i := 10) sc_law.nd rfl (Or.inl rfl) (pe_op op_mod (pe_op op_add (pv 8) pe_int) (pv 2)))
    (pss_cons (ps_if (PW.pt (pw_or (b_cmp op_ne (e_meth0 hr (pv 7)) pe_int (nomark _)) (pw_or (b_cmp (op_neD hr.units) (e_meth0 hr (pv 7)) (e_lst (pa_cons (pv 8) pa_nil)) (nomark _)) (pw_or1 (b_cmp op_ne (e_call hr (by rfl) (pa_cons (pv 7) (pa_cons pe_int (pa_cons (pv 10) pa_nil)))) pe_str (nomark _)))))) (pss_one (ps_ret pe_bl)) pss_nil)
    (pss_cons (s_for PassesOwn.never rfl (i_rng1 (by rfl) W.z_range (pa_cons pe_int pa_nil)) (pg_name (i := 11) sc_law.nd rfl (Or.inl rfl)) (pss_cons (ps_if (b_cmp (op_eqD hr.units) (e_meth0 hr (pv 7)) (e_lst pa_nil) (nomark _)) (pss_one ps_break) pss_nil)
    (pss_one (ps_expr (e_meth hr (pv 7) (pa_cons (e_call hr (by rfl) (pa_cons (pv 1) (pa_cons (e_meth0 hr (pv 7)) pa_nil))) pa_nil))))))
    (pss_cons (ps_if (b_cmp (op_neD hr.units) (e_lc (own := [("_law_k", 4)]) (g := (gName 4)) rfl sc_law.nd (i_rng1 (by rfl) W.z_range (pa_cons (pv 2) pa_nil)) (blkOk_by (own := [("_law_k", 4)]) (N := N_law) (sc := defScope s_law) (by decide +kernel)) (fun _ _ _ _ _ => (pg_name (i := 4) sc_law.nd rfl (Or.inl rfl))) (fun _ _ _ _ _ => pts_nil) (fun _ _ _ _ _ => (e_meth hr (pv 7) (pa_cons (pv 4) pa_nil)))) (pe_op op_rep (e_lst (pa_cons (pe_callB (cr_max rfl) (by rfl) W.z_max (by decide +kernel) (pa_cons (pv 3) pa_nil)) pa_nil)) (pv 2)) (nomark _)) (pss_one (ps_ret pe_bl)) pss_nil)
    (pss_one (ps_ret (e_and (e_cmp (op_eqD hr.units) (e_lc (own := [("_law_k", 4)]) (g := (gName 4)) rfl sc_law.nd (i_rng1 (by rfl) W.z_range (pa_cons (pv 2) pa_nil)) (blkOk_by (own := [("_law_k", 4)]) (N := N_law) (sc := defScope s_law) (by decide +kernel)) (fun _ _ _ _ _ => (pg_name (i := 4) sc_law.nd rfl (Or.inl rfl))) (fun _ _ _ _ _ => pts_nil) (fun _ _ _ _ _ => (e_call hr (by rfl) (pa_cons (pv 7) (pa_cons pe_int (pa_cons (pv 4) pa_nil)))))) (pe_op op_rep (e_lst (pa_cons pe_str pa_nil)) (pv 2)) (nomark _)) (pe_one (e_cmp (op_eqD hr.units) (e_meth0 hr (pv 7)) (e_lst pa_nil) (nomark _))))))))))))))))))))
theorem fnq_law {G : En} (W : Wd G) {sp : Sp} (len : ∀ vs H Q E, sp vs H Q E → vs.length = 1) (pure : ∀ vs H Q E, sp vs H Q E → t_law G { nx := fun _ H' => Q .non H', rt := Q } (start N_law vs) H) {fd : FuncData} (F : FnP G.K "law" "law" s_law [] (He.ga G.K "law") fd) : FnG G CX0 7 (He.ga G.K "law") fd ["_law_script"] sp :=
  fn_ok0 F sc_law len (fun _ _ _ _ _ _ hr => dv_law W hr) pure

theorem x_par {i j : Nat} {ta : TA} {D : Ends} {σ : Stt} {H : Hp} (k : ta σ H fun vs H1 => ∃ v w, vs = [v, w] ∧ D.nx ((σ.set i (some v)).set j (some w)) H1) : tPar i j ta D σ H := k

/-! ### the stepper -/
local macro_rules | `(tactic| walk_at "ne") => `(tactic| first
  | assumption
  | (apply Ne.symm; assumption)
  | (apply ne_new; assumption; walk_at "hp")
  | (apply Ne.symm; apply ne_new; assumption; walk_at "hp"))
local macro_rules | `(tactic| walk_at "hp") => `(tactic| first
  | assumption
  | exact upd_same
  | (apply upd_at; (walk_at "hp"); (walk_at "ne")))
local macro_rules | `(tactic| walk_at "fr") => `(tactic| first
  | assumption
  | exact Fr.refl _
  | (apply Fr.then_put_new; (walk_at "fr"); assumption)
  | (apply Fr.then_new; (walk_at "fr"); assumption)
  | (apply Fr.then_put; (walk_at "fr"); (walk_at "hp"); exact trivial; (first | exact rfl | assumption | exact Or.inl rfl | exact Or.inr rfl)))
local macro_rules | `(tactic| walk_at "ix") => `(tactic| first
  | (exact rfl)
  | assumption
  | (apply map_ix; assumption))
local macro_rules | `(tactic| walk_at "s0") => `(tactic| first
  | (with_reducible refine x_seq ?_)
  | ((with_reducible apply x_var); exact rfl)
  | (with_reducible refine x_c ?_)
  | (with_reducible refine x_op ?_)
  | (with_reducible refine x_I0 ?_)
  | (with_reducible refine x_eqI ?_)
  | (with_reducible refine x_neI ?_)
  | (with_reducible refine x_eqS ?_)
  | (with_reducible refine x_neS ?_)
  | (with_reducible refine x_eqB ?_)
  | (with_reducible refine x_isNn ?_)
  | (with_reducible refine x_isNi ?_)
  | (with_reducible refine x_isNr ?_)
  | (with_reducible refine x_notNn ?_)
  | (with_reducible refine x_notNi ?_)
  | (with_reducible refine x_notNr ?_)
  | (with_reducible refine x_isN ?_)
  | (with_reducible refine x_notN ?_)
  | (with_reducible refine x_cons ?_)
  | (with_reducible refine x_nil ?_)
  | (with_reducible refine x_fld ?_)
  | ((with_reducible apply x_fldg); (walk_at "hp"); (walk_at "cls"); (walk_at "na"); (exact rfl))
  | (with_reducible refine x_sfld ?_)
  | ((with_reducible apply x_putg); (walk_at "hp"); (walk_at "cls"); (walk_at "na"); (exact Nat.le_of_ble_eq_true rfl); (exact rfl))
  | (with_reducible refine x_meth ?_)
  | ((with_reducible apply x_methg); (walk_at "hp"); assumption; (exact (by decide)); (first | exact rfl | exact NL.look (by decide +kernel)))
  | (with_reducible refine x_call (by assumption) (by decide) ?_)
  | (with_reducible refine x_make (by assumption) (by decide) ?_)
  | (with_reducible refine x_makeK (by assumption) (by decide) ?_)
  | (with_reducible refine x_gfld ?_)
  | (with_reducible refine x_din ?_)
  | (with_reducible refine x_dnin ?_)
  | (with_reducible refine x_un ?_)
  | (with_reducible refine x_neg ?_)
  | ((with_reducible apply x_lenD); (walk_at "hp"))
  | ((with_reducible apply x_d2aK); (walk_at "hp"))
  | (with_reducible refine x_test ?_)
  | (with_reducible refine x_isB ?_)
  | (with_reducible refine x_cb ?_)
  | ((with_reducible apply x_lenL); (walk_at "hp"))
  | ((with_reducible apply x_lenT); (walk_at "hp"))
  | (with_reducible refine x_lenSet ?_)
  | (with_reducible refine x_lrg ?_)
  | (with_reducible refine x_bm ?_)
  | ((with_reducible apply x_bmL); (walk_at "hp"))
  | ((with_reducible refine x_new ?_ ?_); (exact Nat.le_of_ble_eq_true rfl); intro _ _)
  | ((with_reducible apply x_ixL); (walk_at "hp"); (exact rfl); (walk_at "ix"))
  | ((with_reducible apply x_ixT); (walk_at "hp"); (exact rfl); (walk_at "ix"))
  | (with_reducible refine x_tup ?_)
  | (with_reducible refine x_lst ?_)
  | (with_reducible refine x_chain ?_)
  | (with_reducible refine x_chn ?_)
  | (with_reducible refine x_andV ?_)
  | (with_reducible refine x_andg ?_)
  | (with_reducible refine x_orV ?_)
  | (with_reducible refine x_org ?_)
  | (with_reducible refine x_notV ?_)
  | (with_reducible refine x_notg ?_)
  | (with_reducible refine x_and ?_)
  | (with_reducible refine x_or ?_)
  | (with_reducible refine x_not ?_)
  | (with_reducible refine x_dget ?_)
  | (with_reducible refine x_asg ?_)
  | (with_reducible refine x_par ?_)
  | (with_reducible refine x_sdput ?_)
  | ((with_reducible refine x_dnew ?_); intro _ _)
  | (with_reducible refine x_dget2 ?_)
  | ((with_reducible apply x_d2aT); (walk_at "hp"))
  | (with_reducible refine x_ikeys ?_)
  | (with_reducible refine x_ivals ?_)
  | ((with_reducible apply x_keys); (walk_at "hp"))
  | ((with_reducible apply x_vals); (walk_at "hp"))
  | (with_reducible refine x_isBl ?_)
  | ((with_reducible apply x_bmD); (walk_at "hp"))
  | (with_reducible refine x_cm (by assumption) (by decide) ?_)
  | ((with_reducible apply x_inI); (walk_at "hp"))
  | (with_reducible refine x_gname ?_)
  | ((with_reducible apply x_gtup); (walk_at "hp"); (exact rfl))
  | (with_reducible refine x_gcons ?_)
  | (with_reducible refine x_gnil ?_)
  | (with_reducible refine x_gsub ?_)
  | (with_reducible refine x_ret ?_)
  | (with_reducible refine x_retN ?_)
  | (with_reducible refine x_drop ?_)
  | (with_reducible refine x_next ?_)
  | (with_reducible refine x_for ?_)
  | (with_reducible refine x_lc ?_)
  | (with_reducible refine x_rng1 ?_)
  | (with_reducible refine x_rng2 ?_)
  | (with_reducible refine x_ilist ?_)
  | ((with_reducible apply x_itl); (walk_at "hp"))
  | (with_reducible refine x_isiII ?_)
  | (with_reducible refine x_isiIB ?_)
  | (with_reducible refine x_isiBI ?_)
  | (with_reducible refine x_isiBB ?_)
  | (with_reducible refine x_isiNI ?_)
  | (with_reducible refine x_isiNL ?_)
  | (with_reducible refine x_isiIL ?_)
  | (with_reducible refine x_isiSI ?_)
  | (with_reducible refine x_isiSL ?_)
  | ((with_reducible apply x_isiLL); (walk_at "hp"))
  | ((with_reducible apply x_isiLI); (walk_at "hp"))
  | ((with_reducible apply x_isiTL); (walk_at "hp"))
  | ((with_reducible apply x_isiTT); (walk_at "hp"))
  | ((with_reducible apply x_isiLT); (walk_at "hp"))
  | (with_reducible refine x_nt ?_)
  | (with_reducible refine x_nf ?_)
  | (with_reducible refine x_nnt ?_)
  | (with_reducible refine x_nnf ?_)
  | (with_reducible refine x_t ?_)
  | (with_reducible refine x_f ?_)
  | ((with_reducible refine x_dt ?_ ?_); (first | assumption | exact rfl))
  | ((with_reducible refine x_ndt ?_ ?_); (first | assumption | exact rfl))
  | ((with_reducible refine x_df ?_ ?_); (first | assumption | exact (by decide)))
  | ((with_reducible refine x_ndf ?_ ?_); (first | assumption | exact (by decide)))
  | ((with_reducible refine x_mod ?_ ?_); (first | exact (by decide) | assumption))
  | ((with_reducible refine x_div ?_ ?_); (first | exact (by decide) | assumption))
  | ((with_reducible refine x_mulL ?_ ?_); (first | exact (by decide) | assumption))
  | ((with_reducible refine x_mulR ?_ ?_); (first | exact (by decide) | assumption)))
local macro_rules | `(tactic| walk_at "s") => `(tactic| first
  | (walk_at "s0")
  | (with_reducible refine x_ifE ?_)
  | (with_reducible refine x_ifs ?_))
local macro_rules | `(tactic| walk_at "st") => `(tactic| repeat (walk_at "s"))
local macro_rules | `(tactic| walk_at "sq") => `(tactic| repeat (walk_at "s0"))
local macro_rules | `(tactic| walk_at "s0") => `(tactic| first
  | (with_reducible refine x_methW ?_)
  | ((with_reducible apply x_methW0); (walk_at "hp"); assumption; (exact (by decide)); (first | exact rfl | exact NL.look (by decide +kernel)))
  | ((with_reducible apply x_methWE); (walk_at "hp"); assumption; (exact (by decide)); (first | exact rfl | exact NL.look (by decide +kernel)))
  | (with_reducible refine x_callW0 (by assumption) (by decide) ?_)
  | (with_reducible refine x_callWE (by assumption) (by decide) ?_)
  | (with_reducible refine x_cmW0 (by assumption) (by decide) ?_)
  | (with_reducible refine x_cmWE (by assumption) (by decide) ?_)
  | (with_reducible refine x_makeW0 (by assumption) (by decide) ?_)
  | (with_reducible refine x_makeWE (by assumption) (by decide) ?_)
  | (with_reducible refine x_try ?_)
  | (with_reducible refine x_raise ?_))
local macro_rules | `(tactic| walk_at "cls") => `(tactic| first
  | assumption
  | (with_reducible exact Wd.c_Choice (by assumption))
)
local macro_rules | `(tactic| walk_at "na") => `(tactic| first
  | assumption
  | (with_reducible exact Wd.na_Choice_names (by assumption))
  | (with_reducible exact Wd.na_Choice_active (by assumption))
  | (with_reducible exact Wd.na_Choice_known (by assumption))
  | (with_reducible exact Wd.na_Choice_rows (by assumption))
  | (with_reducible exact Wd.na_Choice_sent (by assumption))
)
/-! ### numbers, the town of draws -/
def spIsWhole : Sp := fun vs H Q _ => ∃ i lo hi : Int, vs = [.int i, .int lo, .int hi] ∧ Q (.bl (decide (lo ≤ i ∧ i ≤ hi))) H
theorem ok_is_whole {G : En} (W : Wd G) : CalG G 1 "is_whole" spIsWhole [] := by
  refine run_is_whole W (fun vs H Q E h => ?_) (fun vs H Q E h => ?_)
  · obtain ⟨i, lo, hi, rfl, _⟩ := h
    rfl
  · obtain ⟨i, lo, hi, rfl, k⟩ := h
    unfold t_is_whole
    walk_at "st"
    refine x_d2 (fun h1 => ?_) (fun h1 => ?_)
    · walk_at "st"
      show Q _ H
      rw [show decide (i ≤ hi) = decide (lo ≤ i ∧ i ≤ hi) by simp [h1]]
      exact k
    · show Q _ H
      rw [show false = decide (lo ≤ i ∧ i ≤ hi) by simp [h1]]
      exact k
/-- the cells at c, the number of draws -/
structure TownAt (H : Hp) (t c : Addr) : Prop where
  ne : t ≠ c
  ex : ∃ (ns : List Int) (k : Int), H t = some (.lst [.ref c, .int k]) ∧ H c = some (.lst (ns.map V.int)) ∧ ns ≠ [] ∧ ns.length ≤ 63
def tF (t c : Addr) : Addr → Prop := fun b => b = t ∨ b = c
theorem TownAt.fr {F : Addr → Prop} {H H' : Hp} {t c : Addr} (h : TownAt H t c) (f : Fr F H H') (n1 : ¬ F t) (n2 : ¬ F c) : TownAt H' t c := by
  obtain ⟨ne, ns, k, h1, h2, h3, h4⟩ := h
  exact ⟨ne, ns, k, f.keep _ _ h1 n1, f.keep _ _ h2 n2, h3, h4⟩
theorem TownAt.fr0 {H H' : Hp} {t c : Addr} (h : TownAt H t c) (f : Fr F0 H H') : TownAt H' t c := h.fr f id id
def spTown (K : PySem.W.Frag) : Sp := fun vs H Q _ => ∃ (a : Addr) (ns : List Int), vs = [.ref a] ∧ SqL K H a (ns.map V.int) ∧ ns.length ≤ 63 ∧
  ∀ t c H', H t = none → H c = none → TownAt H' t c → Fr F0 H H' → Q (.ref t) H'
theorem ok_town {G : En} (W : Wd G) : CalG G 1 "_law_town" (spTown G.K) [] := by
  refine run__law_town W (fun vs H Q E h => ?_) (fun vs H Q E h => ?_)
  · obtain ⟨a, ns, rfl, _⟩ := h
    rfl
  · obtain ⟨a, ns, rfl, hS, hl, k⟩ := h
    unfold t__law_town
    walk_at "st"
    rename_i e he
    have f0 : Fr F0 H (upd H e (.lst [])) := .new he
    have hS' : SqL G.K (upd H e (.lst [])) a (ns.map V.int) := SqL.fr f0 id hS
    refine x_neL encInt (lst_ints hS') (lst_nil encInt upd_same) ?_
    walk_at "st"
    refine x_nd2 (fun h1 => ?_) (fun h1 => ?_)
    · walk_at "st"
      refine x_listL hS' fun c hc => ?_
      walk_at "st"
      rename_i t ht
      obtain ⟨tc, ht⟩ := upd_none.mp ht
      refine k t c _ (f0.back0 ht) (f0.back0 hc) ⟨tc, ns, 0, upd_same, upd_at upd_same tc.symm, h1, hl⟩ ((f0.then_new hc).then_new (upd_none.mpr ⟨tc, ht⟩))
    · walk_at "st"
      rename_i c hc t ht
      obtain ⟨tc, ht⟩ := upd_none.mp ht
      exact k t c _ (f0.back0 ht) (f0.back0 hc) ⟨tc, [0], 0, upd_same, upd_at upd_same tc.symm, by simp, by simp⟩ ((f0.then_new hc).then_new (upd_none.mpr ⟨tc, ht⟩))
def spDraw : Sp := fun vs H Q _ => ∃ (t c : Addr) (m : Int), vs = [.ref t, .int m] ∧ TownAt H t c ∧ 0 < m ∧ m < 1000000 ∧
  ∀ r H', 0 ≤ r → r < m → TownAt H' t c → Fr (tF t c) H H' → Q (.int r) H'
theorem ok_draw {G : En} (W : Wd G) : CalG G 1 "_law_draw" spDraw [] := by
  refine run__law_draw W (fun vs H Q E h => ?_) (fun vs H Q E h => ?_)
  · obtain ⟨t, c, m, rfl, _⟩ := h
    rfl
  · obtain ⟨t, c, m, rfl, ⟨ne, ns, kk, h1, h2, h3, h4⟩, m0, m1, k⟩ := h
    unfold t__law_draw
    walk_at "st"
    refine x_setL (i := 1) h1 rfl (by simp) ?_
    have g1 : upd H t (.lst (List.set [V.ref c, .int kk] 1 (.int (kk + 1)))) t = some (.lst [V.ref c, .int (kk + 1)]) := upd_same
    have g2 : upd H t (.lst (List.set [V.ref c, .int kk] 1 (.int (kk + 1)))) c = some (.lst (ns.map V.int)) := upd_at h2 ne.symm
    have f1 : Fr (tF t c) H (upd H t (.lst (List.set [V.ref c, .int kk] 1 (.int (kk + 1))))) := .put h1 trivial (.inl rfl)
    generalize upd H t (.lst (List.set [V.ref c, .int kk] 1 (.int (kk + 1)))) = H1 at *
    have L0 : 0 < ns.length := List.length_pos_iff.mpr h3
    walk_at "st"
    refine x_mod (by rw [List.length_map]; omega) ?_
    obtain ⟨i, ei, li⟩ := mod_nat (n := kk + 1) (L := (ns.map V.int).length) (by rw [List.length_map]; exact L0)
    rw [ei]
    rw [List.length_map] at li
    obtain ⟨x, hx⟩ := at_lt li
    walk_at "st"
    refine x_d2 (fun c1 => ?_) (fun c1 => ?_)
    · walk_at "st"
      refine x_div ⟨m0, by omega⟩ ?_
      walk_at "st"
      refine x_setL g2 rfl (by rw [List.length_map]; exact li) ?_
      rw [map_set V.int]
      walk_at "st"
      have a1 := Int.emod_nonneg x (show m ≠ 0 by omega)
      have a2 := Int.emod_lt_of_pos x m0
      exact k _ _ a1 a2 ⟨ne, ns.set i (x / m), kk + 1, upd_at g1 ne, upd_same, by intro z; exact h3 (by simpa using z), by rw [List.length_set]; exact h4⟩
        (f1.then_put g2 trivial (.inr rfl))
    · walk_at "st"
      generalize hz : (x + 104729 * (kk + 1)) % 4294967291 = z
      have z0 := Int.emod_nonneg (x + 104729 * (kk + 1)) (show (4294967291 : Int) ≠ 0 by decide)
      have z1 := Int.emod_lt_of_pos (x + 104729 * (kk + 1)) (show (0 : Int) < 4294967291 by decide)
      refine x_I ⟨by decide, by decide, by omega⟩ ?_
      walk_at "st"
      exact k _ _ (Int.emod_nonneg _ (show m ≠ 0 by omega)) (Int.emod_lt_of_pos _ m0) ⟨ne, ns, kk + 1, g1, g2, h3, h4⟩ f1
def spPick : Sp := fun vs H Q _ => ∃ (t c l : Addr) (xs : List V), vs = [.ref t, .ref l] ∧ TownAt H t c ∧ H l = some (.lst xs) ∧ l ≠ t ∧ l ≠ c ∧ xs ≠ [] ∧ xs.length ≤ 1000 ∧
  ∀ (i : Nat) v H', xs[i]? = some v → TownAt H' t c → Fr (tF t c) H H' → Q v H'
theorem ok_pick {G : En} (W : Wd G) (c1 : CalG G 1 "_law_draw" spDraw []) : CalG G 2 "_law_pick" spPick [] := by
  refine run__law_pick W (fun vs H Q E h => ?_) (fun vs H Q E h => ?_)
  · obtain ⟨t, c, l, xs, rfl, _⟩ := h
    rfl
  · obtain ⟨t, c, l, xs, rfl, hT, hl, n1, n2, hx, hn, k⟩ := h
    unfold t__law_pick
    walk_at "st"
    have := List.length_pos_iff.mpr hx
    refine ⟨t, c, _, rfl, hT, by omega, by omega, fun r H' r0 r1 hT' f => ?_⟩
    obtain ⟨i, rfl⟩ := Int.eq_ofNat_of_zero_le r0
    obtain ⟨v, hv⟩ := at_lt (xs := xs) (i := i) (by omega)
    have hl' : H' l = some (.lst xs) := f.keep _ _ hl (by rintro (z | z) <;> contradiction)
    walk_at "st"
    exact k i v H' hv hT' f

/-! ### a ring of choosing places: what it holds -/
structure ChSt where
  names : List Int
  act : List Bool
  known : List (Option Int)
  rows : List (List Let)
  sent : Int
structure ChL where
  root : Addr
  body : Int → HO
  ln : Addr
  la : Addr
  lk : Addr
  lr : Addr
  rws : List Addr
  nt : ∀ i, noTup (body i)
abbrev ChL.all (L : ChL) : List Addr := L.root :: L.ln :: L.la :: L.lk :: L.lr :: L.rws
def ChM (L : ChL) : Addr → Prop := fun b => b ∈ L.all
structure ChAt (H : Hp) (L : ChL) (S : ChSt) : Prop where
  rt : H L.root = some (L.body S.sent)
  nm : H L.ln = some (.lst (S.names.map V.int))
  ac : H L.la = some (.lst (S.act.map V.bl))
  kn : H L.lk = some (.lst (S.known.map optV))
  rw : H L.lr = some (.lst (L.rws.map V.ref))
  row : ∀ (i : Nat) p r, L.rws[i]? = some p → S.rows[i]? = some r → ∃ ts, H p = some (.lst (ts.map V.ref)) ∧ Lets H ts r
  l1 : S.act.length = S.names.length
  l2 : S.known.length = S.names.length
  l3 : S.rows.length = S.names.length
  l4 : L.rws.length = S.names.length
  nd : L.all.Nodup
theorem ChAt.fr {F : Addr → Prop} {H H' : Hp} {L : ChL} {S : ChSt} (h : ChAt H L S) (f : Fr F H H') (n : ∀ b, ChM L b → ¬ F b) : ChAt H' L S where
  rt := f.keep _ _ h.rt (n _ (by simp [ChM]))
  nm := f.keep _ _ h.nm (n _ (by simp [ChM]))
  ac := f.keep _ _ h.ac (n _ (by simp [ChM]))
  kn := f.keep _ _ h.kn (n _ (by simp [ChM]))
  rw := f.keep _ _ h.rw (n _ (by simp [ChM]))
  row := fun i p r hp hr => by
    obtain ⟨ts, h1, h2⟩ := h.row i p r hp hr
    exact ⟨ts, f.keep _ _ h1 (n _ (by simp [ChM, List.mem_of_getElem? hp])), h2.fr f⟩
  l1 := h.l1
  l2 := h.l2
  l3 := h.l3
  l4 := h.l4
  nd := h.nd
theorem ChAt.fr0 {H H' : Hp} {L : ChL} {S : ChSt} (h : ChAt H L S) (f : Fr F0 H H') : ChAt H' L S := h.fr f fun _ _ z => z
structure ChNe (L : ChL) : Prop where
  a1 : L.root ≠ L.ln
  a2 : L.root ≠ L.la
  a3 : L.root ≠ L.lk
  a4 : L.root ≠ L.lr
  a5 : ∀ p ∈ L.rws, p ≠ L.root
  b2 : L.ln ≠ L.la
  b3 : L.ln ≠ L.lk
  b4 : L.ln ≠ L.lr
  b5 : ∀ p ∈ L.rws, p ≠ L.ln
  c3 : L.la ≠ L.lk
  c4 : L.la ≠ L.lr
  c5 : ∀ p ∈ L.rws, p ≠ L.la
  d4 : L.lk ≠ L.lr
  d5 : ∀ p ∈ L.rws, p ≠ L.lk
  e5 : ∀ p ∈ L.rws, p ≠ L.lr
  f5 : L.rws.Nodup
theorem ChAt.ne {H : Hp} {L : ChL} {S : ChSt} (h : ChAt H L S) : ChNe L := by
  have nd := h.nd
  simp only [ChL.all, List.nodup_cons, List.mem_cons, not_or] at nd
  obtain ⟨⟨a1, a2, a3, a4, a5⟩, ⟨b2, b3, b4, b5⟩, ⟨c3, c4, c5⟩, ⟨d4, d5⟩, e5, f5⟩ := nd
  exact ⟨a1, a2, a3, a4, fun p m z => a5 (z ▸ m), b2, b3, b4, fun p m z => b5 (z ▸ m), c3, c4, fun p m z => c5 (z ▸ m), d4, fun p m z => d5 (z ▸ m), fun p m z => e5 (z ▸ m), f5⟩
theorem nodup_ix {α : Type} {xs : List α} (h : xs.Nodup) {i j : Nat} {x : α} (hi : xs[i]? = some x) (hj : xs[j]? = some x) : i = j := by
  obtain ⟨li, ei⟩ := List.getElem?_eq_some_iff.mp hi
  obtain ⟨lj, ej⟩ := List.getElem?_eq_some_iff.mp hj
  have P := List.pairwise_iff_getElem.mp h
  rcases Nat.lt_trichotomy i j with z | z | z
  · exact absurd (ei.trans ej.symm) (P i j li lj z)
  · exact z
  · exact absurd (ej.trans ei.symm) (P j i lj li z)
theorem Lets.put {H : Hp} {p : Addr} {o u : HO} (e : H p = some u) (nt : noTup u) {ts : List Addr} {ws : List Let} (h : Lets H ts ws) : Lets (upd H p o) ts ws :=
  h.fr (Fr.put (F := fun _ => True) e nt trivial)
theorem ChAt.setAct {H : Hp} {L : ChL} {S : ChSt} (h : ChAt H L S) (i : Nat) (b : Bool) : ChAt (upd H L.la (.lst ((S.act.set i b).map V.bl))) L { S with act := S.act.set i b } := by
  have n := h.ne
  exact ⟨upd_at h.rt n.a2, upd_at h.nm n.b2, upd_same, upd_at h.kn n.c3.symm, upd_at h.rw n.c4.symm, fun j p r hp hr => by
    obtain ⟨ts, h1, h2⟩ := h.row j p r hp hr
    exact ⟨ts, upd_at h1 (n.c5 p (List.mem_of_getElem? hp)), h2.put h.ac trivial⟩, by simpa using h.l1, h.l2, h.l3, h.l4, h.nd⟩
theorem ChAt.setKn {H : Hp} {L : ChL} {S : ChSt} (h : ChAt H L S) (i : Nat) (b : Option Int) : ChAt (upd H L.lk (.lst ((S.known.set i b).map optV))) L { S with known := S.known.set i b } := by
  have n := h.ne
  exact ⟨upd_at h.rt n.a3, upd_at h.nm n.b3, upd_at h.ac n.c3, upd_same, upd_at h.rw n.d4.symm, fun j p r hp hr => by
    obtain ⟨ts, h1, h2⟩ := h.row j p r hp hr
    exact ⟨ts, upd_at h1 (n.d5 p (List.mem_of_getElem? hp)), h2.put h.kn trivial⟩, h.l1, by simpa using h.l2, h.l3, h.l4, h.nd⟩
theorem ChAt.setSent {H : Hp} {L : ChL} {S : ChSt} (h : ChAt H L S) (m : Int) : ChAt (upd H L.root (L.body m)) L { S with sent := m } := by
  have n := h.ne
  exact ⟨upd_same, upd_at h.nm n.a1.symm, upd_at h.ac n.a2.symm, upd_at h.kn n.a3.symm, upd_at h.rw n.a4.symm, fun j p r hp hr => by
    obtain ⟨ts, h1, h2⟩ := h.row j p r hp hr
    exact ⟨ts, upd_at h1 (n.a5 p (List.mem_of_getElem? hp)), h2.put h.rt (L.nt _)⟩, h.l1, h.l2, h.l3, h.l4, h.nd⟩
theorem ChAt.setRow {H : Hp} {L : ChL} {S : ChSt} (h : ChAt H L S) {i : Nat} {p : Addr} {r : List Let} {ts : List Addr} (hp : L.rws[i]? = some p) (hl : Lets H ts r) :
    ChAt (upd H p (.lst (ts.map V.ref))) L { S with rows := S.rows.set i r } := by
  have n := h.ne
  have m := List.mem_of_getElem? hp
  obtain ⟨r0, hr0⟩ := at_lt (xs := S.rows) (i := i) (by rw [h.l3, ← h.l4]; exact lt_at hp)
  obtain ⟨ts0, h0, _⟩ := h.row i p r0 hp hr0
  exact ⟨upd_at h.rt (n.a5 p m).symm, upd_at h.nm (n.b5 p m).symm, upd_at h.ac (n.c5 p m).symm, upd_at h.kn (n.d5 p m).symm, upd_at h.rw (n.e5 p m).symm, fun j q r' hq hr => by
    by_cases e : i = j
    · subst e
      rw [hp] at hq; cases hq
      rw [List.getElem?_set_self (lt_at hr0)] at hr; cases hr
      exact ⟨ts, upd_same, hl.put h0 trivial⟩
    · rw [List.getElem?_set_ne e] at hr
      obtain ⟨ts', h1, h2⟩ := h.row j q r' hq hr
      exact ⟨ts', upd_at h1 (fun z => e (nodup_ix n.f5 hp (z ▸ hq))), h2.put h0 trivial⟩, h.l1, h.l2, by simpa using h.l3, h.l4, h.nd⟩
def ChSt.put (S : ChSt) (i : Nat) (w : Let) : ChSt := { S with rows := S.rows.set i (S.rows.getD i [] ++ [w]), sent := S.sent + 1 }
def ChSt.begun (S : ChSt) (i : Nat) : ChSt := ({ S with act := S.act.set i true } : ChSt).put i (false, S.names.getD i 0)
def ChSt.heard (S : ChSt) (i : Nat) (x : Int) : ChSt :=
  if x = S.names.getD i 0 then ({ S with known := S.known.set i (some x) } : ChSt).put i (true, x)
  else if S.names.getD i 0 < x then ({ S with act := S.act.set i true } : ChSt).put i (false, x)
  else if S.act.getD i false = true then S else S.begun i
def ChSt.cameAt (S : ChSt) (a : Nat) (w : Let) : ChSt :=
  if w.1 = true then (if S.known.getD a none = none then ({ S with known := S.known.set a (some w.2) } : ChSt).put a (true, w.2) else S) else S.heard a w.2
def ChSt.came (S : ChSt) (i : Nat) (w : Let) (r : List Let) : ChSt := ({ S with rows := S.rows.set i r } : ChSt).cameAt ((i + 1) % S.names.length) w
def ChSt.short (S : ChSt) (k : Nat) : Prop := ∀ (i : Nat) r, S.rows[i]? = some r → r.length ≤ k
theorem getD_at {α : Type} {xs : List α} {i : Nat} {x d : α} (h : xs[i]? = some x) : xs.getD i d = x := by rw [List.getD_eq_getElem?_getD, h]; rfl
/-- one letter more at a row -/
theorem ChAt.push {H : Hp} {L : ChL} {S : ChSt} (h : ChAt H L S) {i : Nat} {p t : Addr} {r : List Let} {ts : List Addr} {w : Let} (hp : L.rws[i]? = some p) (hr : S.rows[i]? = some r)
    (hl : Lets H ts r) (ht : H t = some (.tup [.str (wd w.1), .int w.2])) : ChAt (upd (upd H p (.lst (ts.map V.ref ++ [.ref t]))) L.root (L.body (S.sent + 1))) L (S.put i w) := by
  have := (h.setRow hp (hl.add ht)).setSent (S.sent + 1)
  rw [List.map_append] at this
  unfold ChSt.put
  rw [getD_at hr]
  exact this
theorem ChAt.rowF {H : Hp} {L : ChL} {S : ChSt} (h : ChAt H L S) {i : Nat} (hi : i < S.names.length) : ∃ p r ts, L.rws[i]? = some p ∧ S.rows[i]? = some r ∧ H p = some (.lst (ts.map V.ref)) ∧ Lets H ts r := by
  obtain ⟨p, hp⟩ := at_lt (xs := L.rws) (i := i) (by rw [h.l4]; exact hi)
  obtain ⟨r, hr⟩ := at_lt (xs := S.rows) (i := i) (by rw [h.l3]; exact hi)
  obtain ⟨ts, h1, h2⟩ := h.row i p r hp hr
  exact ⟨p, r, ts, hp, hr, h1, h2⟩
theorem ChM.row {L : ChL} {i : Nat} {p : Addr} (h : L.rws[i]? = some p) : ChM L p := by simp [ChM, List.mem_of_getElem? h]
theorem ChM.rt (L : ChL) : ChM L L.root := by simp [ChM]
theorem ChM.la (L : ChL) : ChM L L.la := by simp [ChM]
theorem ChM.lk (L : ChL) : ChM L L.lk := by simp [ChM]
/-- the ring as an object, the ring as a law's own list -/
def chObj (K : PySem.W.Frag) (L : ChL) : Prop := ∃ dx, L.body = fun s => .ins (He.ga K "Choice") dx [("names", .ref L.ln), ("active", .ref L.la), ("known", .ref L.lk), ("rows", .ref L.lr), ("sent", .int s)]
def chOwn (L : ChL) : Prop := L.body = fun s => .lst [.ref L.ln, .ref L.la, .ref L.lk, .ref L.lr, .int s]

/-! ### the methods -/
def spLook (K : PySem.W.Frag) : Sp := fun vs H Q _ => ∃ (L : ChL) (S : ChSt) (i : Nat), vs = [.ref L.root, .int i] ∧ chObj K L ∧ ChAt H L S ∧ i < S.names.length ∧ Q .non H
theorem ok_look {G : En} (W : Wd G) (q1 : CalG G 1 "is_whole" spIsWhole []) : MetG G 2 (cl_Choice G.K) "look_place" (spLook G.K) [] := by
  refine run_Choice_look_place W (fun vs H Q E h => ?_) (fun vs H Q E h => ?_)
  · obtain ⟨L, S, i, rfl, _⟩ := h
    rfl
  · obtain ⟨L, S, i, rfl, ⟨dx, e⟩, h, hi, k⟩ := h
    have rt := h.rt
    simp only [e] at rt
    have nm := h.nm
    unfold t_Choice_look_place
    walk_at "st"
    refine ⟨_, _, _, rfl, ?_⟩
    walk_at "st"
    refine x_ndt ⟨by omega, by rw [List.length_map]; omega⟩ ?_
    exact k
def spPut (K : PySem.W.Frag) : Sp := fun vs H Q _ => ∃ (L : ChL) (S : ChSt) (i : Nat) (b : Bool) (x : Int), vs = [.ref L.root, .int i, .str (wd b), .int x] ∧ chObj K L ∧ ChAt H L S ∧ i < S.names.length ∧ S.short 1000 ∧
  ∀ H', ChAt H' L (S.put i (b, x)) → Fr (ChM L) H H' → Q .non H'
theorem ok_put {G : En} (W : Wd G) : MetG G 1 (cl_Choice G.K) "put" (spPut G.K) [] := by
  refine run_Choice_put W (fun vs H Q E h => ?_) (fun vs H Q E h => ?_)
  · obtain ⟨L, S, i, b, x, rfl, _⟩ := h
    rfl
  · obtain ⟨L, S, i, b, x, rfl, ⟨dx, e⟩, h, hi, sh, k⟩ := h
    obtain ⟨p, r, ts, hp, hr, h1, h2⟩ := h.rowF hi
    have rt := h.rt
    simp only [e] at rt
    have rw_ := h.rw
    unfold t_Choice_put
    walk_at "st"
    refine x_app (upd_new h1 (by assumption)) (by have := sh i r hr; rw [List.length_map, h2.len]; omega) ?_
    rename_i t ht
    have f1 : Fr (ChM L) H (upd H t (.tup [.str (wd b), .int x])) := .new ht
    have h' := h.fr0 (.new (o := .tup [.str (wd b), .int x]) ht)
    have rt' := h'.rt
    simp only [e] at rt'
    have n1 := h'.ne.a5 p (List.mem_of_getElem? hp)
    walk_at "st"
    have := h'.push (w := (b, x)) hp hr (h2.fr (Fr.new (F := F0) ht)) upd_same
    simp only [e] at this
    exact k _ this ((f1.then_put (upd_new h1 ht) trivial (.row hp)).then_put (upd_at rt' n1.symm) trivial (.rt L))

theorem ChSt.put_names (S : ChSt) (i : Nat) (w : Let) : (S.put i w).names = S.names := rfl
def spBegin (K : PySem.W.Frag) : Sp := fun vs H Q _ => ∃ (L : ChL) (S : ChSt) (i : Nat), vs = [.ref L.root, .int i] ∧ chObj K L ∧ ChAt H L S ∧ i < S.names.length ∧ S.short 1000 ∧ S.act[i]? = some false ∧ S.known[i]? = some none ∧
  ∀ H', ChAt H' L (S.begun i) → Fr (ChM L) H H' → Q .non H'
theorem ok_begin {G : En} (W : Wd G) (q1 : MetG G 2 (cl_Choice G.K) "look_place" (spLook G.K) []) (q2 : MetG G 1 (cl_Choice G.K) "put" (spPut G.K) []) : MetG G 3 (cl_Choice G.K) "begin" (spBegin G.K) [] := by
  refine run_Choice_begin W (fun vs H Q E h => ?_) (fun vs H Q E h => ?_)
  · obtain ⟨L, S, i, rfl, _⟩ := h
    rfl
  · obtain ⟨L, S, i, rfl, ⟨dx, e⟩, h, hi, sh, ha, hk, k⟩ := h
    have rt := h.rt
    simp only [e] at rt
    have nm := h.nm
    have ac := h.ac
    have kn := h.kn
    unfold t_Choice_begin
    walk_at "st"
    refine ⟨L, S, i, rfl, ⟨dx, e⟩, h, hi, ?_⟩
    walk_at "st"
    refine x_setL ac rfl (by rw [List.length_map, h.l1]; exact hi) ?_
    rw [map_set V.bl]
    have h' := h.setAct i true
    have f1 : Fr (ChM L) H _ := .put (o := .lst ((S.act.set i true).map V.bl)) ac trivial (.la L)
    have rt' := h'.rt
    simp only [e] at rt'
    have nm' := h'.nm
    obtain ⟨x, hx⟩ := at_lt hi
    walk_at "st"
    refine ⟨L, { S with act := S.act.set i true }, i, false, x, rfl, ⟨dx, e⟩, h', hi, sh, fun H' h2 f2 => ?_⟩
    walk_at "st"
    refine k H' ?_ (f1.trans f2)
    unfold ChSt.begun
    rw [getD_at hx]
    exact h2
def spHeard (K : PySem.W.Frag) : Sp := fun vs H Q _ => ∃ (L : ChL) (S : ChSt) (i : Nat) (x : Int), vs = [.ref L.root, .int i, .int x] ∧ chObj K L ∧ ChAt H L S ∧ i < S.names.length ∧ S.short 1000 ∧
  (S.act[i]? = some false → S.known[i]? = some none) ∧ ∀ H', ChAt H' L (S.heard i x) → Fr (ChM L) H H' → Q .non H'
theorem ok_heard {G : En} (W : Wd G) (q1 : MetG G 3 (cl_Choice G.K) "begin" (spBegin G.K) []) (q2 : MetG G 1 (cl_Choice G.K) "put" (spPut G.K) []) : MetG G 4 (cl_Choice G.K) "heard" (spHeard G.K) [] := by
  refine run_Choice_heard W (fun vs H Q E h => ?_) (fun vs H Q E h => ?_)
  · obtain ⟨L, S, i, x, rfl, _⟩ := h
    rfl
  · obtain ⟨L, S, i, x, rfl, ⟨dx, e⟩, h, hi, sh, ha, k⟩ := h
    have rt := h.rt
    simp only [e] at rt
    have nm := h.nm
    have ac := h.ac
    have kn := h.kn
    obtain ⟨m, hm⟩ := at_lt hi
    obtain ⟨b, hb⟩ := at_lt (xs := S.act) (i := i) (by rw [h.l1]; exact hi)
    have E1 : S.heard i x = if x = m then ({ S with known := S.known.set i (some x) } : ChSt).put i (true, x) else if m < x then ({ S with act := S.act.set i true } : ChSt).put i (false, x) else if b = true then S else S.begun i := by
      unfold ChSt.heard
      rw [getD_at hm, getD_at hb]
    rw [E1] at k
    unfold t_Choice_heard
    walk_at "st"
    refine x_d2 (fun c => ?_) (fun c => ?_)
    · rw [if_pos c] at k
      subst c
      walk_at "st"
      refine x_setL kn rfl (by rw [List.length_map, h.l2]; exact hi) ?_
      rw [show V.int x = optV (some x) from rfl, map_set optV]
      have h' := h.setKn i (some x)
      have f1 : Fr (ChM L) H _ := .put (o := .lst ((S.known.set i (some x)).map optV)) kn trivial (.lk L)
      have rt' := h'.rt
      simp only [e] at rt'
      walk_at "st"
      refine ⟨L, { S with known := S.known.set i (some x) }, i, true, x, rfl, ⟨dx, e⟩, h', hi, sh, fun H' h2 f2 => ?_⟩
      walk_at "st"
      exact k H' h2 (f1.trans f2)
    · rw [if_neg c] at k
      walk_at "st"
      refine x_d2 (fun c2 => ?_) (fun c2 => ?_)
      · rw [if_pos c2] at k
        walk_at "st"
        refine x_setL ac rfl (by rw [List.length_map, h.l1]; exact hi) ?_
        rw [map_set V.bl]
        have h' := h.setAct i true
        have f1 : Fr (ChM L) H _ := .put (o := .lst ((S.act.set i true).map V.bl)) ac trivial (.la L)
        have rt' := h'.rt
        simp only [e] at rt'
        walk_at "st"
        refine ⟨L, { S with act := S.act.set i true }, i, false, x, rfl, ⟨dx, e⟩, h', hi, sh, fun H' h2 f2 => ?_⟩
        walk_at "st"
        exact k H' h2 (f1.trans f2)
      · rw [if_neg c2] at k
        walk_at "st"
        refine x_nb2 (fun c3 => ?_) (fun c3 => ?_)
        · subst c3
          walk_at "st"
          refine ⟨L, S, i, rfl, ⟨dx, e⟩, h, hi, sh, hb, ha hb, fun H' h2 f2 => ?_⟩
          walk_at "st"
          exact k H' h2 f2
        · subst c3
          walk_at "st"
          exact k H h (.refl H)

theorem nxt_cast (i n : Nat) : ((i : Int) + 1) % (n : Int) = (((i + 1) % n : Nat) : Int) := rfl
theorem nxt_lt {i n : Nat} (h : i < n) : (i + 1) % n < n := Nat.mod_lt _ (by omega)
theorem ChSt.short_set {S : ChSt} {k i : Nat} {r : List Let} (h : S.short k) (hr : r.length ≤ k) : ({ S with rows := S.rows.set i r } : ChSt).short k := fun j q hq => by
  by_cases e : i = j
  · subst e
    by_cases l : i < S.rows.length
    · rw [List.getElem?_set_self l] at hq; cases hq; exact hr
    · rw [List.getElem?_eq_none (by simp; omega)] at hq; cases hq
  · rw [List.getElem?_set_ne e] at hq; exact h j q hq
def spCome (K : PySem.W.Frag) : Sp := fun vs H Q _ => ∃ (L : ChL) (S : ChSt) (i : Nat) (w : Let) (r : List Let), vs = [.ref L.root, .int i] ∧ chObj K L ∧ ChAt H L S ∧ i < S.names.length ∧ S.short 1000 ∧
  S.rows[i]? = some (w :: r) ∧ (w.1 = false → S.act[(i + 1) % S.names.length]? = some false → S.known[(i + 1) % S.names.length]? = some none) ∧ ∀ H', ChAt H' L (S.came i w r) → Fr (ChM L) H H' → Q (.str (wd w.1)) H'
theorem ok_come {G : En} (W : Wd G) (q0 : MetG G 2 (cl_Choice G.K) "look_place" (spLook G.K) []) (q1 : MetG G 4 (cl_Choice G.K) "heard" (spHeard G.K) []) (q2 : MetG G 1 (cl_Choice G.K) "put" (spPut G.K) []) : MetG G 5 (cl_Choice G.K) "come" (spCome G.K) [] := by
  refine run_Choice_come W (fun vs H Q E h => ?_) (fun vs H Q E h => ?_)
  · obtain ⟨L, S, i, w, r, rfl, _⟩ := h
    rfl
  · obtain ⟨L, S, i, w, r, rfl, ⟨dx, e⟩, h, hi, sh, hr, hs, k⟩ := h
    have rt := h.rt
    simp only [e] at rt
    have rw_ := h.rw
    obtain ⟨p, hp⟩ := at_lt (xs := L.rws) (i := i) (by rw [h.l4]; exact hi)
    obtain ⟨ts, h1, h2⟩ := h.row i p _ hp hr
    cases ts with
    | nil => exact h2.elim
    | cons t ts =>
    obtain ⟨ht, h2⟩ := h2
    unfold t_Choice_come
    walk_at "st"
    refine ⟨L, S, i, rfl, ⟨dx, e⟩, h, hi, ?_⟩
    walk_at "st"
    rename_i z hz
    have fz : Fr F0 H (upd H z (.lst [])) := .new hz
    refine x_eqL encLet (lst_lets (ws := w :: r) (fz.at0 h1) ⟨fz.tup _ _ ht, h2.fr fz⟩) (lst_nil encLet upd_same) ?_
    refine x_isB (x_df (by simp) ?_)
    have hA := h.fr0 fz
    have g1 := fz.at0 h1
    have gt := fz.tup _ _ ht
    have gl := h2.fr fz
    have fA : Fr (ChM L) H (upd H z (.lst [])) := fz.any
    generalize upd H z (.lst []) = H1 at *
    have rt1 := hA.rt
    simp only [e] at rt1
    have rw1 := hA.rw
    walk_at "st"
    refine x_pop0 g1 ?_
    have hB := hA.setRow hp gl
    have fB := fA.then_put (o := .lst (ts.map V.ref)) g1 trivial (.row hp)
    have gt2 := (Fr.put (F := fun _ => True) (o := .lst (ts.map V.ref)) g1 trivial trivial).tup _ _ gt
    generalize upd H1 p (.lst (ts.map V.ref)) = H2 at *
    have rt2 := hB.rt
    simp only [e] at rt2
    have nm2 := hB.nm
    have kn2 := hB.kn
    walk_at "st"
    refine x_mod (by rw [List.length_map]; show (0 : Int) < (S.names.length : Int); omega) ?_
    rw [List.length_map, show ((i : Int) + 1) % (({ S with rows := S.rows.set i r } : ChSt).names.length : Int) = (((i + 1) % S.names.length : Nat) : Int) from rfl]
    have ha := nxt_lt hi
    have sh2 := ChSt.short_set sh (i := i) (r := r) (by have := sh i _ hr; simp at this; omega)
    unfold ChSt.came at k
    revert k
    generalize ea : (i + 1) % S.names.length = a at *
    intro k
    obtain ⟨b, x⟩ := w
    cases b with
    | false =>
      walk_at "st"
      refine ⟨L, _, a, x, rfl, ⟨dx, e⟩, hB, ha, sh2, hs rfl, fun H' h3 f3 => ?_⟩
      walk_at "st"
      exact k H' h3 (fB.trans f3)
    | true =>
      obtain ⟨o, ho⟩ := at_lt (xs := S.known) (i := a) (by rw [h.l2]; exact ha)
      unfold ChSt.cameAt at k
      dsimp only at k
      rw [getD_at ho, if_pos rfl] at k
      walk_at "st"
      refine x_df (show ¬ wd true = "name" by decide) ?_
      walk_at "st"
      cases o with
      | some m =>
        refine x_df (fun z => nomatch (show V.int m = V.non from z)) ?_
        walk_at "st"
        exact k H2 (by simpa using hB) fB
      | none =>
        walk_at "st"
        refine x_setL kn2 rfl (by rw [List.length_map]; show a < S.known.length; exact lt_at ho) ?_
        rw [show V.int x = optV (some x) from rfl, map_set optV]
        have hC := hB.setKn a (some x)
        have fC := fB.then_put (o := .lst ((S.known.set a (some x)).map optV)) kn2 trivial (.lk L)
        have rt3 := hC.rt
        simp only [e] at rt3
        walk_at "st"
        refine ⟨L, _, a, true, x, rfl, ⟨dx, e⟩, hC, ha, sh2, fun H' h3 f3 => ?_⟩
        walk_at "st"
        exact k H' (by simpa using h3) (fC.trans f3)
def spTold (K : PySem.W.Frag) : Sp := fun vs H Q _ => ∃ (L : ChL) (S : ChSt) (i : Nat) (o : Option Int), vs = [.ref L.root, .int i] ∧ chObj K L ∧ ChAt H L S ∧ S.known[i]? = some o ∧ Q (optV o) H
theorem ok_told {G : En} (W : Wd G) (q0 : MetG G 2 (cl_Choice G.K) "look_place" (spLook G.K) []) : MetG G 3 (cl_Choice G.K) "told" (spTold G.K) [] := by
  refine run_Choice_told W (fun vs H Q E h => ?_) (fun vs H Q E h => ?_)
  · obtain ⟨L, S, i, o, rfl, _⟩ := h
    rfl
  · obtain ⟨L, S, i, o, rfl, ⟨dx, e⟩, h, ho, k⟩ := h
    have rt := h.rt
    simp only [e] at rt
    have kn := h.kn
    unfold t_Choice_told
    walk_at "st"
    refine ⟨L, S, i, rfl, ⟨dx, e⟩, h, by have := lt_at ho; rw [h.l2] at this; exact this, ?_⟩
    walk_at "st"
    exact k
def spLetters (K : PySem.W.Frag) : Sp := fun vs H Q _ => ∃ (L : ChL) (S : ChSt), vs = [.ref L.root] ∧ chObj K L ∧ ChAt H L S ∧ Q (.int S.sent) H
theorem ok_letters {G : En} (W : Wd G) : MetG G 1 (cl_Choice G.K) "letters" (spLetters G.K) [] := by
  refine run_Choice_letters W (fun vs H Q E h => ?_) (fun vs H Q E h => ?_)
  · obtain ⟨L, S, rfl, _⟩ := h
    rfl
  · obtain ⟨L, S, rfl, ⟨dx, e⟩, h, k⟩ := h
    have rt := h.rt
    simp only [e] at rt
    unfold t_Choice_letters
    walk_at "st"
    exact k
def ChSt.ways (S : ChSt) : List Nat := (List.range S.names.length).filter fun i => !decide (S.rows.getD i [] = [])
def spWays (K : PySem.W.Frag) : Sp := fun vs H Q _ => ∃ (L : ChL) (S : ChSt), vs = [.ref L.root] ∧ chObj K L ∧ ChAt H L S ∧ S.names.length ≤ 1000 ∧ ∀ D H', H D = none → Fr F0 H H' → H' D = some (.lst (S.ways.map natV)) → Q (.ref D) H'
theorem ok_ways {G : En} (W : Wd G) : MetG G 1 (cl_Choice G.K) "ways" (spWays G.K) [] := by
  refine run_Choice_ways W (fun vs H Q E h => ?_) (fun vs H Q E h => ?_)
  · obtain ⟨L, S, rfl, _⟩ := h
    rfl
  · obtain ⟨L, S, rfl, ⟨dx, e⟩, h, hn, k⟩ := h
    have rt := h.rt
    simp only [e] at rt
    have rw_ := h.rw
    unfold t_Choice_ways
    walk_at "st"
    rw [List.length_map, h.l4]
    refine x_rng1g (by omega) ?_
    rw [Int.toNat_natCast]
    refine lc_rngP (fun i => !decide (S.rows.getD i [] = [])) natV (by omega) (fun i H1 Kv Kn hi f k1 k2 => ?_) (fun D H' hD f e' => k D H' hD f e')
    obtain ⟨p, r, ts, hp, hr, h1, h2⟩ := h.rowF hi
    have hA := h.fr0 f
    have rt1 := hA.rt
    simp only [e] at rt1
    have rw1 := hA.rw
    have g1 := f.at0 h1
    have g2 := h2.fr f
    refine ⟨rfl, ?_⟩
    walk_at "st"
    rename_i z hz
    have fz : Fr F0 H1 (upd H1 z (.lst [])) := .new hz
    refine x_neL encLet (lst_lets (ws := r) (fz.at0 g1) (g2.fr fz)) (lst_nil encLet upd_same) ?_
    rw [getD_at hr] at k1 k2
    refine x_isB (x_nd2 (fun c => ?_) (fun c => ?_))
    · walk_at "st"
      exact k1 (by simpa using c) _ fz
    · exact k2 (by simpa using c) _ fz

/-! ### a new ring -/
def chNew (ns : List Int) : ChSt := ⟨ns, List.replicate ns.length false, List.replicate ns.length none, List.replicate ns.length [], 0⟩
theorem newRows {H1 H : Hp} {Dd : Addr} {ps : List Addr} (h : NewL H1 Dd ps H) (n : Nat) : ∀ (i : Nat) p r, ps[i]? = some p → (List.replicate n ([] : List Let))[i]? = some r → ∃ ts, H p = some (.lst (ts.map V.ref)) ∧ Lets H ts r := fun i p r hp hr => by
  have : r = [] := by
    rw [List.getElem?_replicate] at hr
    split at hr
    · cases hr; rfl
    · cases hr
  subst this
  exact ⟨[], (h.nw p (List.mem_of_getElem? hp)).2, trivial⟩
def spInit (K : PySem.W.Frag) : Sp := fun vs H Q _ => ∃ (x l dx : Addr) (ns : List Int), vs = [.ref x, .ref l] ∧ H x = some (.ins (cl_Choice K) dx []) ∧ H l = some (.lst (ns.map V.int)) ∧ 2 ≤ ns.length ∧ ns.length ≤ 10 ∧
  (∀ n ∈ ns, 0 ≤ n ∧ n ≤ 999) ∧ ns.Nodup ∧ ∀ L H', L.root = x → chObj K L → ChAt H' L (chNew ns) → (∀ b, ChM L b → b = x ∨ H b = none) → Fr (fun b => b = x) H H' → Q .non H'
theorem ok_init {G : En} (W : Wd G) (q1 : CalG G 1 "is_whole" spIsWhole []) : MakG G 2 "Choice" (cl_Choice G.K) (spInit G.K) [] := by
  refine run_Choice_init W (fun vs H Q E h => ?_) (fun vs H Q E h => ?_)
  · obtain ⟨x, l, dx, ns, rfl, _⟩ := h
    rfl
  · obtain ⟨x, l, dx, ns, rfl, hx, hl, n2, n10, hb, nd, k⟩ := h
    unfold t_Choice_init
    walk_at "st"
    rw [List.length_map]
    refine x_dt (by omega) ?_
    walk_at "st"
    rw [show decide ((ns.length : Int) ≤ 10) = true by simp; omega]
    walk_at "st"
    refine lc_lstP (ns.map V.int) (fun _ => true) (fun i => .bl (decide (0 ≤ ns.getD i 0 ∧ ns.getD i 0 ≤ 999))) (by rw [List.length_map]; omega) hl (fun i v H1 Kv Kn hi f k1 k2 => ?_) (fun D H1 hD f e => ?_)
    · rw [List.getElem?_map] at hi
      obtain ⟨n, hn, rfl⟩ := Option.map_eq_some_iff.mp hi
      refine ⟨rfl, lc_yes (x_t ?_)⟩
      walk_at "st"
      refine ⟨_, _, _, rfl, ?_⟩
      have := k1 rfl H1 (.refl H1)
      simp only [getD_at hn] at this
      exact this
    rw [List.length_map] at e
    walk_at "st"
    refine x_all (bs := List.replicate ns.length true) ?_ ?_
    · rw [e]
      congr 2
      refine List.ext_getElem? fun i => ?_
      rw [filt_all]
      simp only [List.getElem?_map, List.getElem?_replicate]
      by_cases c : i < ns.length
      · have hm := hb (ns.getD i 0) (by rw [List.getD_eq_getElem?_getD, List.getElem?_eq_getElem c]; exact List.getElem_mem c)
        have hm2 : 0 ≤ ns[i] ∧ ns[i] ≤ 999 := by simpa [c] using hm
        simp [c, hm2]
      · simp [c]
    have : (List.replicate ns.length true).all id = true := by simp
    rw [this]
    have hl1 := f.at0 hl
    have hx1 := f.at0 hx
    walk_at "st"
    refine x_lenSetg hl1 (by omega) ?_
    walk_at "st"
    rw [List.length_map, dcount_of_nodup nd]
    refine x_df (by omega) ?_
    walk_at "st"
    have lx : l ≠ x := fun z => by rw [z, hx] at hl; cases hl
    have f1 : Fr (fun b => b = x) H H1 := f.any
    refine x_listL (SqL.of hl1) fun ln hln => ?_
    have e1 := f.back0 hln
    walk_at "st"
    rename_i p1 hp1
    rw [List.length_map]
    refine x_rep1 upd_same (by omega) fun la hla => ?_
    walk_at "st"
    rename_i p2 hp2
    rw [List.length_map]
    refine x_rep1 upd_same (by omega) fun lk hlk => ?_
    walk_at "st"
    refine lc_lstN (xs := ns.map V.int) ?_ (by rw [List.length_map]; omega) (fun _ => rfl) fun lr ps H2 hlr hps hN => ?_
    · walk_at "hp"
    obtain ⟨fr, nd2, nw, at_⟩ := hN
    have hx2 : H2 x = some (.ins (cl_Choice G.K) dx [("names", .ref ln), ("active", .ref la), ("known", .ref lk)]) := fr.at0 upd_same
    have hn2 : H2 ln = some (.lst (ns.map V.int)) := fr.at0 (by walk_at "hp")
    have ha2 : H2 la = some (.lst (List.replicate ns.length (.bl false))) := fr.at0 (by walk_at "hp")
    have hk2 : H2 lk = some (.lst (List.replicate ns.length .non)) := fr.at0 (by walk_at "hp")
    have nw1 : ∀ p ∈ ps, p ≠ x ∧ p ≠ ln ∧ p ≠ la ∧ p ≠ lk ∧ H1 p = none := fun p hp => by
      have := (nw p hp).1
      simp only [upd_none] at this
      exact ⟨this.1, this.2.2.2.2.2.2.2.1, this.2.2.2.2.1, this.2.1, this.2.2.2.2.2.2.2.2⟩
    simp only [upd_none] at hp1 hla hp2 hlk hlr
    have e2 := f.back0 hp1.2.2
    have e3 := f.back0 hla.2.2.2
    have e4 := f.back0 hp2.2.2.2.2.2
    have e5 := f.back0 hlk.2.2.2.2.2.2
    have e6 := f.back0 hlr.2.2.2.2.2.2.2.2
    have fB : Fr (fun b => b = x) H H2 := by
      refine Fr.trans ?_ fr.any
      walk_at "fr"
    walk_at "st"
    have xln : x ≠ ln := ne_of_none hx1 hln
    refine k ⟨x, fun s => .ins (cl_Choice G.K) dx [("names", .ref ln), ("active", .ref la), ("known", .ref lk), ("rows", .ref lr), ("sent", .int s)], ln, la, lk, lr, ps, fun _ => trivial⟩ _ rfl ⟨dx, rfl⟩ ?_ ?_ ?_
    · have nd3 := List.nodup_cons.mp nd2
      refine ⟨upd_same, upd_at (upd_at hn2 xln.symm) xln.symm, ?_, ?_, upd_at (upd_at at_ hlr.1) hlr.1, ?_, by simp [chNew], by simp [chNew], by simp [chNew], by simpa [chNew] using hps, ?_⟩
      · exact upd_at (upd_at (by rw [ha2]; simp [chNew]) hla.2.1) hla.2.1
      · exact upd_at (upd_at (by rw [hk2]; simp [chNew, optV]) hlk.2.1) hlk.2.1
      · intro i p r hp hr
        obtain ⟨ts, g1, g2⟩ := newRows (ps := ps) (Dd := lr) (H := H2) ⟨fr, nd2, nw, at_⟩ ns.length i p r hp hr
        have := (nw1 p (List.mem_of_getElem? hp)).1
        have q := (Fr.put (F := fun _ => True) (o := .ins (cl_Choice G.K) dx (putF "rows" (.ref lr) [("names", .ref ln), ("active", .ref la), ("known", .ref lk)])) hx2 trivial trivial)
        exact ⟨ts, upd_at (upd_at g1 this) this, (g2.fr q).put upd_same (by exact trivial)⟩
      · simp only [ChL.all, List.nodup_cons, List.mem_cons, not_or]
        refine ⟨⟨xln, hla.2.1.symm, hlk.2.1.symm, hlr.1.symm, fun z => (nw1 x z).1 rfl⟩, ⟨hla.2.2.1.symm, hlk.2.2.2.2.2.1.symm, hlr.2.2.2.2.2.2.2.1.symm, fun z => (nw1 ln z).2.1 rfl⟩, ⟨hlk.2.2.1.symm, hlr.2.2.2.2.1.symm, fun z => (nw1 la z).2.2.1 rfl⟩, ⟨hlr.2.1.symm, fun z => (nw1 lk z).2.2.2.1 rfl⟩, nd3⟩
    · intro b hb
      simp only [ChM, ChL.all, List.mem_cons] at hb
      rcases hb with rfl | rfl | rfl | rfl | rfl | hb
      · exact .inl rfl
      · exact .inr e1
      · exact .inr e3
      · exact .inr e5
      · exact .inr e6
      · exact .inr (f.back0 (nw1 b hb).2.2.2.2)
    · walk_at "fr"

/-! ### sums -/
def rsum (m : Nat) (f : Nat → Int) : Int := ((List.range m).map f).sum
theorem rsum_succ (m : Nat) (f : Nat → Int) : rsum (m + 1) f = rsum m f + f m := by
  unfold rsum
  rw [List.range_succ, List.map_append, List.sum_append]
  simp
theorem rsum_congr {m : Nat} {f g : Nat → Int} (h : ∀ t, t < m → f t = g t) : rsum m f = rsum m g := by
  unfold rsum
  rw [List.map_congr_left fun t ht => h t (List.mem_range.mp ht)]
theorem rsum_set {f g : Nat → Int} {k : Nat} (h : ∀ t, t ≠ k → g t = f t) : ∀ {m : Nat}, k < m → rsum m g = rsum m f - f k + g k
  | 0, hk => absurd hk (Nat.not_lt_zero _)
  | m + 1, hk => by
    rw [rsum_succ, rsum_succ]
    by_cases e : k = m
    · subst e
      rw [rsum_congr fun t ht => h t (by omega)]
      omega
    · rw [rsum_set h (show k < m by omega), h m (fun z => e z.symm)]
      omega
theorem rsum_nonneg {f : Nat → Int} : ∀ {m : Nat}, (∀ t, t < m → 0 ≤ f t) → 0 ≤ rsum m f
  | 0, _ => by simp [rsum]
  | m + 1, h => by
    rw [rsum_succ]
    have := rsum_nonneg (f := f) (m := m) fun t ht => h t (by omega)
    have := h m (by omega)
    omega
theorem rsum_ge {f : Nat → Int} {k : Nat} : ∀ {m : Nat}, (∀ t, t < m → 0 ≤ f t) → k < m → f k ≤ rsum m f
  | 0, _, hk => absurd hk (Nat.not_lt_zero _)
  | m + 1, h, hk => by
    rw [rsum_succ]
    by_cases e : k = m
    · subst e
      have := rsum_nonneg (f := f) (m := k) fun t ht => h t (by omega)
      omega
    · have := rsum_ge (f := f) (k := k) (m := m) (fun t ht => h t (by omega)) (by omega)
      have := h m (by omega)
      omega
theorem rsum_zero {f : Nat → Int} : ∀ {m : Nat}, (∀ t, t < m → f t = 0) → rsum m f = 0
  | 0, _ => rfl
  | m + 1, h => by rw [rsum_succ, rsum_zero fun t ht => h t (by omega), h m (by omega)]; rfl

/-! ### the choice: places counted from the one with the greatest name -/
def off (n top i : Nat) : Nat := (i + n - top) % n
theorem off_eq {n top i : Nat} (ht : top < n) (hi : i < n) : off n top i = if top ≤ i then i - top else i + n - top := by
  unfold off
  split
  · rw [show i + n - top = (i - top) + n by omega, Nat.add_mod_right, Nat.mod_eq_of_lt (by omega)]
  · rw [Nat.mod_eq_of_lt (by omega)]
theorem off_lt {n top i : Nat} (ht : top < n) (hi : i < n) : off n top i < n := Nat.mod_lt _ (by omega)
theorem off_top {n top : Nat} (ht : top < n) : off n top top = 0 := by rw [off_eq ht ht]; simp
theorem off_zero {n top i : Nat} (ht : top < n) (hi : i < n) (e : off n top i = 0) : i = top := by
  rw [off_eq ht hi] at e
  split at e <;> omega
theorem off_inj {n top i j : Nat} (ht : top < n) (hi : i < n) (hj : j < n) (e : off n top i = off n top j) : i = j := by
  rw [off_eq ht hi, off_eq ht hj] at e
  split at e <;> split at e <;> omega
theorem nx_eq {n i : Nat} (hi : i < n) : (i + 1) % n = if i + 1 < n then i + 1 else 0 := by
  split
  · rw [Nat.mod_eq_of_lt (by omega)]
  · rw [show i + 1 = n by omega, Nat.mod_self]
theorem nx_lt {n i : Nat} (hi : i < n) : (i + 1) % n < n := Nat.mod_lt _ (by omega)
theorem off_nx {n top i : Nat} (ht : top < n) (hi : i < n) : off n top ((i + 1) % n) = if off n top i + 1 < n then off n top i + 1 else 0 := by
  rw [off_eq ht (nx_lt hi), off_eq ht hi, nx_eq hi]
  split <;> split <;> split <;> split <;> omega
structure FE where
  nm : Nat → Int
  ac : Nat → Bool
  kn : Nat → Option Int
  rw : Nat → List Let
  sent : Int
def FE.put (S : FE) (i : Nat) (w : Let) : FE := { S with rw := fset S.rw i (S.rw i ++ [w]), sent := S.sent + 1 }
def FE.on (S : FE) (i : Nat) : FE := { S with ac := fset S.ac i true }
def FE.know (S : FE) (i : Nat) (x : Int) : FE := { S with kn := fset S.kn i (some x) }
def FE.pop (S : FE) (i : Nat) (r : List Let) : FE := { S with rw := fset S.rw i r }
def FE.begun (S : FE) (i : Nat) : FE := (S.on i).put i (false, S.nm i)
def FE.heard (S : FE) (i : Nat) (x : Int) : FE :=
  if x = S.nm i then (S.know i x).put i (true, x)
  else if S.nm i < x then (S.on i).put i (false, x)
  else if S.ac i = true then S else S.begun i
def FE.at (S : FE) (a : Nat) (w : Let) : FE := if w.1 = true then (if S.kn a = none then (S.know a w.2).put a (true, w.2) else S) else S.heard a w.2
def cntN (r : List Let) : Int := ((r.filter fun w => !w.1).length : Int)
theorem cntN_cons (w : Let) (r : List Let) : cntN (w :: r) = cntN r + if w.1 = true then 0 else 1 := by
  unfold cntN
  obtain ⟨b, x⟩ := w
  cases b <;> simp
theorem cntN_snoc (w : Let) (r : List Let) : cntN (r ++ [w]) = cntN r + if w.1 = true then 0 else 1 := by
  unfold cntN
  obtain ⟨b, x⟩ := w
  cases b <;> simp
theorem cntN_nn (r : List Let) : 0 ≤ cntN r := Int.natCast_nonneg _
section
variable {n top : Nat} {S : FE} {i : Nat}
def fA (n top : Nat) (S : FE) : Int := rsum n fun i => ((n : Int) - 1 - off n top i) * cntN (S.rw i)
def fB (n top : Nat) (S : FE) : Int := rsum n fun i => if S.ac i = true then 0 else (n : Int) - off n top i
def fC (n : Nat) (S : FE) : Int := rsum n fun i => if S.kn i = none then 1 else 0
def fPhi (n top : Nat) (S : FE) : Int := S.sent + fA n top S + fB n top S + fC n S
def fLen (n : Nat) (S : FE) : Int := rsum n fun i => ((S.rw i).length : Int)
theorem fA_row (hi : i < n) (r : List Let) : fA n top { S with rw := fset S.rw i r } = fA n top S - ((n : Int) - 1 - off n top i) * cntN (S.rw i) + ((n : Int) - 1 - off n top i) * cntN r := by
  unfold fA
  rw [rsum_set (f := fun i => ((n : Int) - 1 - off n top i) * cntN (S.rw i)) (k := i) (fun t ht => by show _ * cntN (fset S.rw i r t) = _; rw [fset_ne ht]) hi]
  show _ + _ * cntN (fset S.rw i r i) = _
  rw [fset_same]
theorem fLen_row (hi : i < n) (r : List Let) (s : Int) : fLen n { S with rw := fset S.rw i r, sent := s } = fLen n S - (S.rw i).length + r.length := by
  unfold fLen
  rw [rsum_set (f := fun i => ((S.rw i).length : Int)) (k := i) (fun t ht => by show ((fset S.rw i r t).length : Int) = _; rw [fset_ne ht]) hi]
  show _ + ((fset S.rw i r i).length : Int) = _
  rw [fset_same]
theorem phi_put (hi : i < n) (w : Let) : fPhi n top (S.put i w) = fPhi n top S + 1 + if w.1 = true then 0 else (n : Int) - 1 - off n top i := by
  have a := fA_row (top := top) (S := S) hi (S.rw i ++ [w])
  rw [cntN_snoc, Int.mul_add] at a
  unfold fPhi
  show S.sent + 1 + fA n top { S with rw := fset S.rw i (S.rw i ++ [w]) } + fB n top S + fC n S = _
  rw [a]
  split <;> simp <;> omega
theorem len_put (hi : i < n) (w : Let) : fLen n (S.put i w) = fLen n S + 1 := by
  show fLen n { S with rw := fset S.rw i (S.rw i ++ [w]), sent := S.sent + 1 } = _
  rw [fLen_row hi, List.length_append]
  simp; omega
theorem phi_pop (hi : i < n) {w : Let} {r : List Let} (e : S.rw i = w :: r) : fPhi n top (S.pop i r) = fPhi n top S - if w.1 = true then 0 else (n : Int) - 1 - off n top i := by
  have a := fA_row (top := top) (S := S) hi r
  rw [e, cntN_cons, Int.mul_add] at a
  unfold fPhi
  show S.sent + fA n top { S with rw := fset S.rw i r } + fB n top S + fC n S = _
  rw [a]
  split <;> simp <;> omega
theorem len_pop (hi : i < n) {w : Let} {r : List Let} (e : S.rw i = w :: r) : fLen n (S.pop i r) = fLen n S - 1 := by
  show fLen n { S with rw := fset S.rw i r, sent := S.sent } = _
  rw [fLen_row hi, e]
  simp; omega
theorem phi_on (ht : top < n) (hi : i < n) : fPhi n top (S.on i) = fPhi n top S - if S.ac i = true then 0 else (n : Int) - off n top i := by
  have : fB n top (S.on i) = fB n top S - if S.ac i = true then 0 else (n : Int) - off n top i := by
    unfold fB
    rw [rsum_set (f := fun i => if S.ac i = true then 0 else (n : Int) - off n top i) (k := i) (fun t ht => by show (if fset S.ac i true t = true then _ else _) = _; rw [fset_ne ht]) hi]
    show _ + (if fset S.ac i true i = true then 0 else (n : Int) - off n top i) = _
    rw [fset_same, if_pos rfl]; omega
  unfold fPhi
  show S.sent + fA n top S + fB n top (S.on i) + fC n S = _
  omega
theorem phi_know (hi : i < n) (x : Int) : fPhi n top (S.know i x) = fPhi n top S - if S.kn i = none then 1 else 0 := by
  have : fC n (S.know i x) = fC n S - if S.kn i = none then 1 else 0 := by
    unfold fC
    rw [rsum_set (f := fun i => if S.kn i = none then (1 : Int) else 0) (k := i) (fun t ht => by show (if fset S.kn i (some x) t = none then _ else _) = _; rw [fset_ne ht]) hi]
    show _ + (if fset S.kn i (some x) i = none then (1 : Int) else 0) = _
    rw [fset_same, if_neg (show ¬ (some x : Option Int) = none from fun z => nomatch z)]; omega
  unfold fPhi
  show S.sent + fA n top S + fB n top S + fC n (S.know i x) = _
  omega
end
/-! ### phases -/
structure EB (n top : Nat) (best : Int) (S : FE) : Prop where
  ht : top < n
  hb : S.nm top = best
  mx : ∀ i, i < n → S.nm i ≤ best
  inj : ∀ i j, i < n → j < n → S.nm i = S.nm j → i = j
  val : ∀ i, i < n → ∀ x, (false, x) ∈ S.rw i → ∃ m, m < n ∧ off n top m ≤ off n top i ∧ S.nm m = x ∧ S.ac m = true
  bnd : 2 * fPhi n top S ≤ n * (n + 1) + 2 * n
  s0 : 0 ≤ S.sent
inductive Ph where
  | idle | go | lead (d : Nat) | tell (e : Nat) | done
def EPh (n top : Nat) (best : Int) (S : FE) : Ph → Prop
  | .idle => (∀ i, i < n → S.ac i = false) ∧ (∀ i, i < n → S.rw i = []) ∧ (∀ i, i < n → S.kn i = none)
  | .go => S.ac top = false ∧ (∀ i, i < n → S.kn i = none) ∧ (∀ i, i < n → ∀ w ∈ S.rw i, w.1 = false) ∧ ∃ m i, m < n ∧ i < n ∧ (false, S.nm m) ∈ S.rw i ∧ ∀ j, j < n → S.ac j = true → S.nm j ≤ S.nm m
  | .lead d => d < n ∧ (∀ i, i < n → S.kn i = none) ∧ (∀ i, i < n → ∀ w ∈ S.rw i, w.1 = false) ∧ (∀ i, i < n → off n top i < d → S.rw i = []) ∧
      (∀ i, i < n → off n top i = d → ∃ q, S.rw i = q ++ [(false, best)] ∧ ∀ w ∈ q, w.2 ≠ best) ∧ (∀ i, i < n → off n top i ≠ d → ∀ w ∈ S.rw i, w.2 ≠ best) ∧ (∀ i, i < n → off n top i ≤ d → S.ac i = true) ∧ (d : Int) + 1 ≤ S.sent
  | .tell e => e < n ∧ (∀ i, i < n → S.rw i = if off n top i = e then [(true, best)] else []) ∧ (∀ i, i < n → S.ac i = true) ∧ (∀ i, i < n → S.kn i = if off n top i ≤ e then some best else none) ∧ (n : Int) + e + 1 ≤ S.sent
  | .done => (∀ i, i < n → S.rw i = []) ∧ (∀ i, i < n → S.ac i = true) ∧ (∀ i, i < n → S.kn i = some best) ∧ 2 * (n : Int) ≤ S.sent
section
variable {n top : Nat} {best : Int} {S : FE} {i : Nat}
theorem fs_eq {α : Type} {f : Nat → α} {i j : Nat} {v : α} : fset f i v j = if j = i then v else f j := rfl
theorem EB.ne (h : EB n top best S) (hi : i < n) (ne : i ≠ top) : S.nm i < best := by
  have := h.mx i hi
  have : S.nm i ≠ best := fun z => ne (h.inj i top hi h.ht (z.trans h.hb.symm))
  omega
/-- a letter more, of a place that takes part, not ahead of where it began -/
theorem EB.putN (h : EB n top best S) (hi : i < n) {x : Int} {m : Nat} (hm : m < n) (om : off n top m ≤ off n top i) (em : S.nm m = x) (am : (S.on i).ac m = true) (b : 2 * fPhi n top ((S.on i).put i (false, x)) ≤ n * (n + 1) + 2 * n) : EB n top best ((S.on i).put i (false, x)) := by
  have mono : ∀ j, S.ac j = true → (S.on i).ac j = true := fun j z => by
    show fset S.ac i true j = true
    rw [fs_eq]; split <;> first | rfl | exact z
  refine ⟨h.ht, h.hb, h.mx, h.inj, fun j hj y hy => ?_, b, by have := h.s0; show 0 ≤ S.sent + 1; omega⟩
  have hy : (false, y) ∈ fset S.rw i (S.rw i ++ [(false, x)]) j := hy
  rw [fs_eq] at hy
  have old : (false, y) ∈ S.rw j → ∃ m, m < n ∧ off n top m ≤ off n top j ∧ S.nm m = y ∧ (S.on i).ac m = true := fun z => by
    obtain ⟨m, a, b, c, d⟩ := h.val j hj y z
    exact ⟨m, a, b, c, mono m d⟩
  split at hy
  · rename_i e
    subst e
    rcases List.mem_append.mp hy with z | z
    · exact old z
    · have : y = x := (Prod.mk.inj (List.mem_singleton.mp z)).2
      exact ⟨m, hm, om, em.trans this.symm, am⟩
  · exact old hy
theorem EB.begun (h : EB n top best S) (hi : i < n) (ha : S.ac i = false) : EB n top best (S.begun i) := by
  refine h.putN hi hi (Nat.le_refl _) rfl (show fset S.ac i true i = true from fset_same) ?_
  have b := h.bnd
  have e : fPhi n top ((S.on i).put i (false, S.nm i)) = _ := phi_put hi _
  rw [phi_on h.ht hi, ha, if_neg Bool.false_ne_true, if_neg Bool.false_ne_true] at e
  rw [e]; omega
theorem EB.pop (h : EB n top best S) (hi : i < n) {w : Let} {r : List Let} (e : S.rw i = w :: r) : EB n top best (S.pop i r) := by
  refine ⟨h.ht, h.hb, h.mx, h.inj, fun j hj y hy => ?_, ?_, h.s0⟩
  · have hz : (false, y) ∈ fset S.rw i r j := hy
    rw [fs_eq] at hz
    split at hz
    · rename_i z
      subst z
      exact h.val j hj y (by rw [e]; exact List.mem_cons_of_mem _ hz)
    · exact h.val j hj y hz
  · have b := h.bnd
    have := off_lt h.ht hi
    rw [phi_pop hi e]
    split <;> omega
theorem begun_rw {S : FE} {i j : Nat} : (S.begun i).rw j = if j = i then S.rw i ++ [(false, S.nm i)] else S.rw j := rfl
theorem begun_ac {S : FE} {i j : Nat} : (S.begun i).ac j = if j = i then true else S.ac j := rfl
theorem ph_begun {p : Ph} (h : EB n top best S) (ph : EPh n top best S p) (hi : i < n) (ha : S.ac i = false) : ∃ p', EPh n top best (S.begun i) p' ∧ p' ≠ .idle := by
  have lead0 : (∀ j, j < n → S.kn j = none) → (∀ j, j < n → ∀ w ∈ S.rw j, w.1 = false ∧ w.2 ≠ best) → i = top → EPh n top best (S.begun i) (.lead 0) := fun k c e => by
    subst e
    have o0 := off_top h.ht
    refine ⟨by omega, k, fun j hj w hw => ?_, fun j hj z => absurd z (Nat.not_lt_zero _), fun j hj z => ?_, fun j hj z w hw => ?_, fun j hj z => ?_, by have := h.s0; show ((0 : Nat) : Int) + 1 ≤ S.sent + 1; omega⟩
    · rw [begun_rw] at hw
      split at hw
      · rcases List.mem_append.mp hw with y | y
        · exact (c i hi w y).1
        · rw [List.mem_singleton.mp y]
      · exact (c j hj w hw).1
    · have := off_zero h.ht hj z
      subst this
      exact ⟨S.rw j, by rw [begun_rw, if_pos rfl, h.hb], fun w hw => (c j hj w hw).2⟩
    · rw [begun_rw, if_neg (fun y => z (by rw [y]; exact o0))] at hw
      exact (c j hj w hw).2
    · have := off_zero h.ht hj (by omega)
      rw [begun_ac, if_pos this]
  have noB : S.ac top = false → ∀ j, j < n → ∀ w ∈ S.rw j, w.1 = false → w.2 ≠ best := fun at0 j hj w hw w1 e => by
    obtain ⟨b, x⟩ := w
    cases w1
    cases e
    obtain ⟨m, a, _, c, d⟩ := h.val j hj _ hw
    have := h.inj m top a h.ht (c.trans h.hb.symm)
    rw [this, at0] at d; cases d
  cases p with
  | idle =>
    obtain ⟨a, b, c⟩ := ph
    by_cases e : i = top
    · exact ⟨.lead 0, lead0 c (fun j hj w hw => by rw [b j hj] at hw; cases hw) e, fun z => nomatch z⟩
    · refine ⟨.go, ⟨?_, c, fun j hj w hw => ?_, i, i, hi, hi, ?_, fun j hj z => ?_⟩, fun z => nomatch z⟩
      · rw [begun_ac, if_neg (fun z => e z.symm)]; exact a top h.ht
      · rw [begun_rw, b i hi, b j hj] at hw
        split at hw
        · rw [List.mem_singleton.mp hw]
        · cases hw
      · rw [begun_rw, if_pos rfl]; exact List.mem_append_right _ List.mem_cons_self
      · rw [begun_ac] at z
        split at z
        · rename_i y; rw [y]; exact Int.le_refl _
        · rw [a j hj] at z; cases z
  | go =>
    obtain ⟨a, b, c, m, k, hm, hk, hw, mx⟩ := ph
    by_cases e : i = top
    · exact ⟨.lead 0, lead0 b (fun j hj w hw => ⟨c j hj w hw, noB a j hj w hw (c j hj w hw)⟩) e, fun z => nomatch z⟩
    · have g : ∃ m k, m < n ∧ k < n ∧ (false, S.nm m) ∈ (S.begun i).rw k ∧ ∀ j, j < n → (S.begun i).ac j = true → S.nm j ≤ S.nm m := by
        by_cases q : S.nm m < S.nm i
        · refine ⟨i, i, hi, hi, ?_, fun j hj z => ?_⟩
          · rw [begun_rw, if_pos rfl]; exact List.mem_append_right _ List.mem_cons_self
          · rw [begun_ac] at z
            split at z
            · rename_i y; rw [y]; exact Int.le_refl _
            · have := mx j hj z; omega
        · refine ⟨m, k, hm, hk, ?_, fun j hj z => ?_⟩
          · rw [begun_rw]
            split
            · rename_i y; rw [← y]; exact List.mem_append_left _ hw
            · exact hw
          · rw [begun_ac] at z
            split at z
            · rename_i y; rw [y]; omega
            · exact mx j hj z
      refine ⟨.go, ⟨?_, b, fun j hj w hw => ?_, g⟩, fun z => nomatch z⟩
      · rw [begun_ac, if_neg (fun z => e z.symm)]; exact a
      · rw [begun_rw] at hw
        split at hw
        · rcases List.mem_append.mp hw with y | y
          · exact c i hi w y
          · rw [List.mem_singleton.mp y]
        · exact c j hj w hw
  | lead d =>
    obtain ⟨p1, p2, p3, p4, p5, p6, p7, p8⟩ := ph
    have oi : d < off n top i := Nat.lt_of_not_le fun z => by rw [p7 i hi z] at ha; cases ha
    have nt : i ≠ top := fun z => by rw [z, off_top h.ht] at oi; omega
    have nb := h.ne hi nt
    refine ⟨.lead d, ⟨p1, p2, fun j hj w hw => ?_, fun j hj z => ?_, fun j hj z => ?_, fun j hj z w hw => ?_, fun j hj z => ?_, by show (d : Int) + 1 ≤ S.sent + 1; omega⟩, fun z => nomatch z⟩
    · rw [begun_rw] at hw
      split at hw
      · rcases List.mem_append.mp hw with y | y
        · exact p3 i hi w y
        · rw [List.mem_singleton.mp y]
      · exact p3 j hj w hw
    · rw [begun_rw, if_neg (fun y => by rw [y] at z; omega)]; exact p4 j hj z
    · rw [begun_rw, if_neg (fun y => by rw [y] at z; omega)]; exact p5 j hj z
    · rw [begun_rw] at hw
      split at hw
      · rename_i y
        rcases List.mem_append.mp hw with u | u
        · exact p6 i hi (by omega) w u
        · rw [List.mem_singleton.mp u]; exact fun v => by have v : S.nm i = best := v; omega
      · exact p6 j hj z w hw
    · rw [begun_ac]
      split
      · rfl
      · exact p7 j hj z
  | tell e => obtain ⟨_, _, a, _⟩ := ph; rw [a i hi] at ha; cases ha
  | done => obtain ⟨_, a, _⟩ := ph; rw [a i hi] at ha; cases ha
/-- a letter comes -/
theorem ph_come {p : Ph} (h : EB n top best S) (ph : EPh n top best S p) (n2 : 2 ≤ n) (hi : i < n) {w : Let} {r : List Let} (er : S.rw i = w :: r) :
    ∃ p', EB n top best ((S.pop i r).at ((i + 1) % n) w) ∧ EPh n top best ((S.pop i r).at ((i + 1) % n) w) p' ∧ p' ≠ .idle := by
  have h1 := h.pop hi er
  have ha := nx_lt hi
  have oa := off_nx h.ht hi
  have o0 := off_top h.ht
  have oi := off_lt h.ht hi
  have wm : w ∈ S.rw i := by rw [er]; exact List.mem_cons_self
  have sub : ∀ y ∈ r, y ∈ S.rw i := fun y hy => by rw [er]; exact List.mem_cons_of_mem _ hy
  have R1 : ∀ j, (S.pop i r).rw j = if j = i then r else S.rw j := fun _ => rfl
  generalize (i + 1) % n = a at *
  cases p with
  | idle => obtain ⟨_, b, _⟩ := ph; rw [b i hi] at er; cases er
  | done => obtain ⟨b, _⟩ := ph; rw [b i hi] at er; cases er
  | tell e =>
    obtain ⟨p1, p2, p3, p4, p5⟩ := ph
    have ei : off n top i = e := by
      have := p2 i hi
      rw [er] at this
      split at this
      · assumption
      · cases this
    have ew := p2 i hi
    rw [if_pos ei, er] at ew
    obtain ⟨rfl, rfl⟩ := List.cons.inj ew
    have S1r : ∀ j, j < n → (S.pop i []).rw j = [] := fun j hj => by
      rw [R1]
      split
      · rfl
      · rename_i ne
        rw [p2 j hj, if_neg (fun z => ne (off_inj h.ht hj hi (z.trans ei.symm)))]
    unfold FE.at
    rw [if_pos rfl]
    by_cases c : e + 1 < n
    · rw [if_pos (by omega)] at oa
      have ka : S.kn a = none := by rw [p4 a ha, if_neg (by omega)]
      rw [if_pos (show (S.pop i []).kn a = none from ka)]
      refine ⟨.tell (e + 1), ⟨h.ht, h.hb, h.mx, h.inj, fun j hj y hy => ?_, ?_, by have := h.s0; show 0 ≤ S.sent + 1; omega⟩, ⟨c, fun j hj => ?_, p3, fun j hj => ?_, by show (n : Int) + ((e + 1 : Nat) : Int) + 1 ≤ S.sent + 1; omega⟩, fun z => nomatch z⟩
      · have hz : (false, y) ∈ fset (S.pop i []).rw a ((S.pop i []).rw a ++ [(true, best)]) j := hy
        rw [fs_eq, S1r a ha, S1r j hj] at hz
        split at hz
        · exact absurd (List.mem_singleton.mp hz) (fun z => by cases z)
        · cases hz
      · have b := h1.bnd
        have q := phi_put (top := top) (S := (S.pop i []).know a best) ha (true, best)
        rw [if_pos rfl, phi_know ha, if_pos (show (S.pop i []).kn a = none from ka)] at q
        rw [q]; omega
      · show fset (S.pop i []).rw a ((S.pop i []).rw a ++ [(true, best)]) j = _
        rw [fs_eq, S1r a ha, S1r j hj]
        by_cases z : j = a
        · rw [if_pos z, z, if_pos (by omega)]; rfl
        · rw [if_neg z, if_neg (fun y => z (off_inj h.ht hj ha (by omega)))]
      · show fset S.kn a (some best) j = _
        rw [fs_eq]
        by_cases z : j = a
        · rw [if_pos z, z, if_pos (by omega)]
        · rw [if_neg z, p4 j hj]
          by_cases y : off n top j ≤ e
          · rw [if_pos y, if_pos (by omega)]
          · rw [if_neg y, if_neg (fun u => z (off_inj h.ht hj ha (by omega)))]
    · rw [if_neg (by omega)] at oa
      have ea := off_zero h.ht ha oa
      have ka : S.kn a = some best := by rw [p4 a ha, if_pos (by omega)]
      rw [if_neg (show ¬ (S.pop i []).kn a = none from fun z => by have z : S.kn a = none := z; rw [ka] at z; cases z)]
      exact ⟨.done, h1, ⟨S1r, p3, fun j hj => by
        show S.kn j = some best
        rw [p4 j hj, if_pos (by have := off_lt h.ht hj; omega)], by show 2 * (n : Int) ≤ S.sent; omega⟩, fun z => nomatch z⟩
  | go =>
    obtain ⟨p1, p2, p3, m, k, hm, hk, hw, mx⟩ := ph
    obtain ⟨b, x⟩ := w
    obtain rfl : b = false := p3 i hi _ wm
    obtain ⟨m', hm', om', em', am'⟩ := h.val i hi x wm
    have xm : x ≤ S.nm m := by have := mx m' hm' am'; omega
    have at_ : ∀ S' : FE, S'.at a (false, x) = S'.heard a x := fun S' => if_neg Bool.false_ne_true
    rw [at_]
    have nx : ¬ x = S.nm a := fun z => by
      have e := h.inj m' a hm' ha (em'.trans z)
      subst e
      have : m' = top := off_zero h.ht ha (by split at oa <;> omega)
      rw [this, p1] at am'; cases am'
    have c1 : ∀ j, j < n → ∀ w ∈ (S.pop i r).rw j, w.1 = false := fun j hj w hw => by
      rw [R1] at hw
      split at hw
      · exact p3 i hi w (sub w hw)
      · exact p3 j hj w hw
    have des : (false, S.nm m) ∈ (S.pop i r).rw k ∨ S.nm m = x := by
      rw [R1]
      split
      · rename_i e
        subst e
        rw [er] at hw
        rcases List.mem_cons.mp hw with z | z
        · exact .inr (Prod.mk.inj z).2
        · exact .inl z
      · exact .inl hw
    unfold FE.heard
    rw [if_neg (show ¬ x = (S.pop i r).nm a from nx)]
    by_cases lt : S.nm a < x
    · rw [if_pos (show (S.pop i r).nm a < x from lt)]
      have nt : a ≠ top := fun z => by
        have := h.mx m' hm'
        rw [z, h.hb] at lt
        omega
      have oa' : off n top a = off n top i + 1 := by
        split at oa
        · exact oa
        · exact absurd (off_zero h.ht ha oa) nt
      refine ⟨.go, h1.putN ha hm' (by omega) em' (by
        show fset S.ac a true m' = true
        rw [fs_eq]; split <;> first | rfl | exact am') ?_, ⟨?_, p2, fun j hj w hw => ?_, ?_⟩, fun z => nomatch z⟩
      · have bb := h.bnd
        have q := phi_put (top := top) (S := (S.pop i r).on a) ha (false, x)
        have q2 := phi_on (S := S.pop i r) h.ht ha
        have q3 := phi_pop (top := top) hi er
        rw [if_neg Bool.false_ne_true] at q q3
        have : (if (S.pop i r).ac a = true then (0 : Int) else (n : Int) - off n top a) ≥ 0 := by
          have := off_lt h.ht ha
          split <;> omega
        rw [q]; omega
      · show fset S.ac a true top = false
        rw [fset_ne (fun z => nt z.symm)]; exact p1
      · have hz : w ∈ fset (S.pop i r).rw a ((S.pop i r).rw a ++ [(false, x)]) j := hw
        rw [fs_eq] at hz
        split at hz
        · rcases List.mem_append.mp hz with y | y
          · exact c1 a ha w y
          · rw [List.mem_singleton.mp y]
        · exact c1 j hj w hz
      · have mx' : ∀ j, j < n → fset S.ac a true j = true → S.nm j ≤ S.nm m := fun j hj z => by
          rw [fs_eq] at z
          split at z
          · rename_i y; rw [y]; omega
          · exact mx j hj z
        rcases des with z | z
        · refine ⟨m, k, hm, hk, ?_, mx'⟩
          show (false, S.nm m) ∈ fset (S.pop i r).rw a ((S.pop i r).rw a ++ [(false, x)]) k
          rw [fs_eq]
          split
          · rename_i y; rw [← y]; exact List.mem_append_left _ z
          · exact z
        · refine ⟨m, a, hm, ha, ?_, mx'⟩
          show (false, S.nm m) ∈ fset (S.pop i r).rw a ((S.pop i r).rw a ++ [(false, x)]) a
          rw [fset_same, z]; exact List.mem_append_right _ List.mem_cons_self
    · rw [if_neg (show ¬ (S.pop i r).nm a < x from lt)]
      cases aa : S.ac a with
      | true =>
        rw [if_pos (show (S.pop i r).ac a = true from aa)]
        refine ⟨.go, h1, ⟨p1, p2, c1, m, k, hm, hk, ?_, mx⟩, fun z => nomatch z⟩
        rcases des with z | z
        · exact z
        · have := mx a ha aa; omega
      | false =>
        rw [if_neg (show ¬ (S.pop i r).ac a = true from fun z => by have z : S.ac a = true := z; rw [aa] at z; cases z)]
        rcases des with z | z
        · obtain ⟨p', q1, q2⟩ := ph_begun (p := .go) h1 ⟨p1, p2, c1, m, k, hm, hk, z, mx⟩ ha aa
          exact ⟨p', h1.begun ha aa, q1, q2⟩
        · refine ⟨?_, h1.begun ha aa, ?_⟩
          · exact if a = top then .lead 0 else .go
          · by_cases e : a = top
            · rw [if_pos e]
              have noB : ∀ j, j < n → ∀ w ∈ (S.pop i r).rw j, w.2 ≠ best := fun j hj w hw e => by
                obtain ⟨b, y⟩ := w
                obtain rfl : b = false := c1 j hj _ hw
                obtain ⟨m2, a2, _, c2, d2⟩ := h1.val j hj y hw
                have : m2 = top := h.inj m2 top a2 h.ht (c2.trans (Eq.trans e h.hb.symm))
                have d2 : S.ac m2 = true := d2
                rw [this, p1] at d2; cases d2
              refine ⟨⟨by omega, p2, fun j hj w hw => ?_, fun j hj z => absurd z (Nat.not_lt_zero _), fun j hj z => ?_, fun j hj z w hw => ?_, fun j hj z => ?_, by have := h.s0; show ((0 : Nat) : Int) + 1 ≤ S.sent + 1; omega⟩, fun z => nomatch z⟩
              · rw [begun_rw] at hw
                split at hw
                · rcases List.mem_append.mp hw with y | y
                  · exact c1 a ha w y
                  · rw [List.mem_singleton.mp y]
                · exact c1 j hj w hw
              · have ej := off_zero h.ht hj z
                refine ⟨(S.pop i r).rw j, ?_, fun w hw => noB j hj w hw⟩
                rw [begun_rw, if_pos (ej.trans e.symm), show (S.pop i r).nm a = best by rw [e]; exact h.hb, ej, e]
              · rw [begun_rw, if_neg (fun y => z (by rw [y, e]; exact o0))] at hw
                exact noB j hj w hw
              · have ej := off_zero h.ht hj (by omega)
                rw [begun_ac, if_pos (ej.trans e.symm)]
            · rw [if_neg e]
              refine ⟨⟨?_, p2, fun j hj w hw => ?_, a, a, ha, ha, ?_, fun j hj y => ?_⟩, fun z => nomatch z⟩
              · rw [begun_ac, if_neg (fun z => e z.symm)]; exact p1
              · rw [begun_rw] at hw
                split at hw
                · rcases List.mem_append.mp hw with y | y
                  · exact c1 a ha w y
                  · rw [List.mem_singleton.mp y]
                · exact c1 j hj w hw
              · rw [begun_rw, if_pos rfl]; exact List.mem_append_right _ List.mem_cons_self
              · show S.nm j ≤ S.nm a
                rw [begun_ac] at y
                split at y
                · rename_i u; rw [u]; exact Int.le_refl _
                · have := mx j hj y; omega
  | lead d =>
    obtain ⟨p1, p2, p3, p4, p5, p6, p7, p8⟩ := ph
    obtain ⟨b, x⟩ := w
    obtain rfl : b = false := p3 i hi _ wm
    obtain ⟨m', hm', om', em', am'⟩ := h.val i hi x wm
    have at_ : ∀ S' : FE, S'.at a (false, x) = S'.heard a x := fun S' => if_neg Bool.false_ne_true
    rw [at_]
    have gd : d ≤ off n top i := Nat.le_of_not_lt fun z => by rw [p4 i hi z] at er; cases er
    have c1 : ∀ j, j < n → ∀ w ∈ (S.pop i r).rw j, w.1 = false := fun j hj w hw => by
      rw [R1] at hw
      split at hw
      · exact p3 i hi w (sub w hw)
      · exact p3 j hj w hw
    by_cases xb : x = best
    · subst xb
      have ei : off n top i = d := Classical.byContradiction fun z => p6 i hi z _ wm rfl
      obtain ⟨q, eq, nq⟩ := p5 i hi ei
      rw [er] at eq
      obtain rfl : q = [] := by
        cases q with
        | nil => rfl
        | cons y q =>
          have := (List.cons.inj eq).1
          exact absurd (by rw [← this]) (nq y List.mem_cons_self)
      obtain rfl : r = [] := (List.cons.inj eq).2
      have empt : ∀ j, j < n → off n top j ≤ d → (S.pop i []).rw j = [] := fun j hj z => by
        rw [R1]
        split
        · rfl
        · rename_i ne
          exact p4 j hj (by
            have : off n top j ≠ d := fun y => ne (off_inj h.ht hj hi (y.trans ei.symm))
            omega)
      unfold FE.heard
      by_cases c : d + 1 < n
      · rw [if_pos (by omega)] at oa
        have nt : a ≠ top := fun z => by rw [z, o0] at oa; omega
        have nb := h.ne ha nt
        rw [if_neg (show ¬ x = (S.pop i []).nm a from fun z => by have z : x = S.nm a := z; omega), if_pos (show (S.pop i []).nm a < x from nb)]
        refine ⟨.lead (d + 1), h1.putN ha hm' (by omega) em' (by
          show fset S.ac a true m' = true
          rw [fs_eq]; split <;> first | rfl | exact am') ?_, ⟨c, p2, fun j hj w hw => ?_, fun j hj z => ?_, fun j hj z => ?_, fun j hj z w hw => ?_, fun j hj z => ?_, by show ((d + 1 : Nat) : Int) + 1 ≤ S.sent + 1; omega⟩, fun z => nomatch z⟩
        · have bb := h.bnd
          have q := phi_put (top := top) (S := (S.pop i []).on a) ha (false, x)
          have q2 := phi_on (S := S.pop i []) h.ht ha
          have q3 := phi_pop (top := top) hi er
          rw [if_neg Bool.false_ne_true] at q q3
          have : (if (S.pop i []).ac a = true then (0 : Int) else (n : Int) - off n top a) ≥ 0 := by
            have := off_lt h.ht ha
            split <;> omega
          rw [q]; omega
        · have hz : w ∈ fset (S.pop i []).rw a ((S.pop i []).rw a ++ [(false, x)]) j := hw
          rw [fs_eq] at hz
          split at hz
          · rcases List.mem_append.mp hz with y | y
            · exact c1 a ha w y
            · rw [List.mem_singleton.mp y]
          · exact c1 j hj w hz
        · show fset (S.pop i []).rw a ((S.pop i []).rw a ++ [(false, x)]) j = []
          rw [fset_ne (fun y => by rw [y] at z; omega)]
          exact empt j hj (by omega)
        · have ej := off_inj h.ht hj ha (by omega)
          subst ej
          refine ⟨(S.pop i []).rw j, fset_same, fun w hw => ?_⟩
          rw [R1] at hw
          split at hw
          · cases hw
          · exact p6 j hj (by omega) w hw
        · have hz : w ∈ fset (S.pop i []).rw a ((S.pop i []).rw a ++ [(false, x)]) j := hw
          rw [fset_ne (fun y => by rw [y] at z; omega), R1] at hz
          split at hz
          · cases hz
          · rename_i ne
            exact p6 j hj (fun y => ne (off_inj h.ht hj hi (y.trans ei.symm))) w hz
        · show fset S.ac a true j = true
          rw [fs_eq]
          split
          · rfl
          · rename_i ne
            exact p7 j hj (by
              have : off n top j ≠ d + 1 := fun y => ne (off_inj h.ht hj ha (by omega))
              omega)
      · rw [if_neg (by omega)] at oa
        have ea := off_zero h.ht ha oa
        rw [if_pos (show x = (S.pop i []).nm a by rw [ea]; exact h.hb.symm)]
        have ka : S.kn a = none := p2 a ha
        have e0 : ∀ j, j < n → (S.pop i []).rw j = [] := fun j hj => empt j hj (by have := off_lt h.ht hj; omega)
        refine ⟨.tell 0, ⟨h.ht, h.hb, h.mx, h.inj, fun j hj y hy => ?_, ?_, by have := h.s0; show 0 ≤ S.sent + 1; omega⟩, ⟨by omega, fun j hj => ?_, fun j hj => p7 j hj (by have := off_lt h.ht hj; omega), fun j hj => ?_, by show (n : Int) + ((0 : Nat) : Int) + 1 ≤ S.sent + 1; omega⟩, fun z => nomatch z⟩
        · have hz : (false, y) ∈ fset (S.pop i []).rw a ((S.pop i []).rw a ++ [(true, x)]) j := hy
          rw [fs_eq, e0 a ha, e0 j hj] at hz
          split at hz
          · exact absurd (List.mem_singleton.mp hz) (fun z => by cases z)
          · cases hz
        · have b := h1.bnd
          have q := phi_put (top := top) (S := (S.pop i []).know a x) ha (true, x)
          rw [if_pos rfl, phi_know ha, if_pos (show (S.pop i []).kn a = none from ka)] at q
          rw [q]; omega
        · show fset (S.pop i []).rw a ((S.pop i []).rw a ++ [(true, x)]) j = _
          rw [fs_eq, e0 a ha, e0 j hj]
          by_cases z : j = a
          · rw [if_pos z, z, if_pos oa]; rfl
          · rw [if_neg z, if_neg (fun y => z (off_inj h.ht hj ha (by omega)))]
        · show fset S.kn a (some x) j = _
          rw [fs_eq]
          by_cases z : j = a
          · rw [if_pos z, z, if_pos (by omega)]
          · rw [if_neg z, p2 j hj, if_neg (fun u => z (off_inj h.ht hj ha (by omega)))]
    · -- a lesser letter
      have r5 : ∀ j, j < n → off n top j = d → ∃ q, (S.pop i r).rw j = q ++ [(false, best)] ∧ ∀ w ∈ q, w.2 ≠ best := fun j hj z => by
        obtain ⟨q, eq, nq⟩ := p5 j hj z
        rw [R1]
        split
        · rename_i e
          subst e
          rw [er] at eq
          cases q with
          | nil =>
            have := (List.cons.inj eq).1
            exact absurd (Prod.mk.inj this).2 xb
          | cons y q => exact ⟨q, (List.cons.inj eq).2, fun w hw => nq w (List.mem_cons_of_mem _ hw)⟩
        · exact ⟨q, eq, nq⟩
      have r6 : ∀ j, j < n → off n top j ≠ d → ∀ w ∈ (S.pop i r).rw j, w.2 ≠ best := fun j hj z w hw => by
        rw [R1] at hw
        split at hw
        · rename_i e
          exact p6 i hi (by rw [← e]; exact z) w (sub w hw)
        · exact p6 j hj z w hw
      have r4 : ∀ j, j < n → off n top j < d → (S.pop i r).rw j = [] := fun j hj z => by
        rw [R1, if_neg (fun y => by rw [y] at z; omega)]
        exact p4 j hj z
      have L1 : EPh n top best (S.pop i r) (.lead d) := ⟨p1, p2, c1, r4, r5, r6, p7, p8⟩
      have lb : x < best := by have := h.mx m' hm'; omega
      unfold FE.heard
      have nx : ¬ x = S.nm a := fun z => by
        have e := h.inj m' a hm' ha (em'.trans z)
        subst e
        have : m' = top := off_zero h.ht ha (by split at oa <;> omega)
        rw [this, h.hb] at em'
        exact xb em'.symm
      rw [if_neg (show ¬ x = (S.pop i r).nm a from nx)]
      by_cases lt : S.nm a < x
      · rw [if_pos (show (S.pop i r).nm a < x from lt)]
        have nt : a ≠ top := fun z => by rw [z, h.hb] at lt; omega
        have oa' : off n top a = off n top i + 1 := by
          split at oa
          · exact oa
          · exact absurd (off_zero h.ht ha oa) nt
        refine ⟨.lead d, h1.putN ha hm' (by omega) em' (by
          show fset S.ac a true m' = true
          rw [fs_eq]; split <;> first | rfl | exact am') ?_, ⟨p1, p2, fun j hj w hw => ?_, fun j hj z => ?_, fun j hj z => ?_, fun j hj z w hw => ?_, fun j hj z => ?_, by show (d : Int) + 1 ≤ S.sent + 1; omega⟩, fun z => nomatch z⟩
        · have bb := h.bnd
          have q := phi_put (top := top) (S := (S.pop i r).on a) ha (false, x)
          have q2 := phi_on (S := S.pop i r) h.ht ha
          have q3 := phi_pop (top := top) hi er
          rw [if_neg Bool.false_ne_true] at q q3
          have : (if (S.pop i r).ac a = true then (0 : Int) else (n : Int) - off n top a) ≥ 0 := by
            have := off_lt h.ht ha
            split <;> omega
          rw [q]; omega
        · have hz : w ∈ fset (S.pop i r).rw a ((S.pop i r).rw a ++ [(false, x)]) j := hw
          rw [fs_eq] at hz
          split at hz
          · rcases List.mem_append.mp hz with y | y
            · exact c1 a ha w y
            · rw [List.mem_singleton.mp y]
          · exact c1 j hj w hz
        · show fset (S.pop i r).rw a ((S.pop i r).rw a ++ [(false, x)]) j = []
          rw [fset_ne (fun y => by rw [y] at z; omega)]
          exact r4 j hj z
        · obtain ⟨q, e1, e2⟩ := r5 j hj z
          refine ⟨q, ?_, e2⟩
          show fset (S.pop i r).rw a ((S.pop i r).rw a ++ [(false, x)]) j = _
          rw [fset_ne (fun y => by rw [y] at z; omega)]
          exact e1
        · have hz : w ∈ fset (S.pop i r).rw a ((S.pop i r).rw a ++ [(false, x)]) j := hw
          rw [fs_eq] at hz
          split at hz
          · rcases List.mem_append.mp hz with y | y
            · exact r6 a ha (by omega) w y
            · rw [List.mem_singleton.mp y]; exact xb
          · exact r6 j hj z w hz
        · show fset S.ac a true j = true
          rw [fs_eq]
          split
          · rfl
          · exact p7 j hj z
      · rw [if_neg (show ¬ (S.pop i r).nm a < x from lt)]
        cases aa : S.ac a with
        | true =>
          rw [if_pos (show (S.pop i r).ac a = true from aa)]
          exact ⟨.lead d, h1, L1, fun z => nomatch z⟩
        | false =>
          rw [if_neg (show ¬ (S.pop i r).ac a = true from fun z => by have z : S.ac a = true := z; rw [aa] at z; cases z)]
          obtain ⟨p', q1, q2⟩ := ph_begun (p := .lead d) h1 L1 ha aa
          exact ⟨p', h1.begun ha aa, q1, q2⟩
end

/-! ### from the ring's lists -/
theorem getD_set {α : Type} {xs : List α} {i : Nat} {v d : α} (h : i < xs.length) : (fun j => (xs.set i v).getD j d) = fset (fun j => xs.getD j d) i v := by
  funext j
  unfold fset
  by_cases c : j = i
  · subst c
    rw [if_pos rfl, List.getD_eq_getElem?_getD, List.getElem?_set_self h]; rfl
  · rw [if_neg c, List.getD_eq_getElem?_getD, List.getElem?_set_ne (fun z => c z.symm), ← List.getD_eq_getElem?_getD]
def prE (S : ChSt) : FE := ⟨fun i => S.names.getD i 0, fun i => S.act.getD i false, fun i => S.known.getD i none, fun i => S.rows.getD i [], S.sent⟩
structure ChN (n : Nat) (S : ChSt) : Prop where
  ln : S.names.length = n
  l1 : S.act.length = n
  l2 : S.known.length = n
  l3 : S.rows.length = n
section
variable {n : Nat} {S : ChSt} {i : Nat}
theorem ChN.put (h : ChN n S) (w : Let) : ChN n (S.put i w) := ⟨h.ln, h.l1, h.l2, by simp [ChSt.put, h.l3]⟩
theorem ChN.on (h : ChN n S) : ChN n { S with act := S.act.set i true } := ⟨h.ln, by simp [h.l1], h.l2, h.l3⟩
theorem ChN.know (h : ChN n S) {x : Option Int} : ChN n { S with known := S.known.set i x } := ⟨h.ln, h.l1, by simp [h.l2], h.l3⟩
theorem ChN.pop (h : ChN n S) {r : List Let} : ChN n { S with rows := S.rows.set i r } := ⟨h.ln, h.l1, h.l2, by simp [h.l3]⟩
theorem prE_put (h : ChN n S) (hi : i < n) (w : Let) : prE (S.put i w) = (prE S).put i w := by
  unfold prE FE.put ChSt.put
  rw [getD_set (by rw [h.l3]; exact hi)]
theorem prE_on (h : ChN n S) (hi : i < n) : prE { S with act := S.act.set i true } = (prE S).on i := by
  unfold prE FE.on
  rw [getD_set (by rw [h.l1]; exact hi)]
theorem prE_know (h : ChN n S) (hi : i < n) (x : Int) : prE { S with known := S.known.set i (some x) } = (prE S).know i x := by
  unfold prE FE.know
  rw [getD_set (by rw [h.l2]; exact hi)]
theorem prE_pop (h : ChN n S) (hi : i < n) (r : List Let) : prE { S with rows := S.rows.set i r } = (prE S).pop i r := by
  unfold prE FE.pop
  rw [getD_set (by rw [h.l3]; exact hi)]
theorem prE_begun (h : ChN n S) (hi : i < n) : prE (S.begun i) = (prE S).begun i ∧ ChN n (S.begun i) := by
  refine ⟨?_, h.on.put _⟩
  unfold ChSt.begun FE.begun
  rw [prE_put h.on hi, prE_on h hi]; rfl
theorem prE_heard (h : ChN n S) (hi : i < n) (x : Int) : prE (S.heard i x) = (prE S).heard i x ∧ ChN n (S.heard i x) := by
  unfold ChSt.heard FE.heard
  show prE (if x = S.names.getD i 0 then _ else _) = (if x = S.names.getD i 0 then _ else if S.names.getD i 0 < x then _ else if S.act.getD i false = true then _ else _) ∧ _
  split
  · exact ⟨by rw [prE_put h.know hi, prE_know h hi], h.know.put _⟩
  · split
    · exact ⟨by rw [prE_put h.on hi, prE_on h hi], h.on.put _⟩
    · split
      · exact ⟨rfl, h⟩
      · exact prE_begun h hi
theorem prE_cameAt (h : ChN n S) (hi : i < n) (w : Let) : prE (S.cameAt i w) = (prE S).at i w ∧ ChN n (S.cameAt i w) := by
  unfold ChSt.cameAt FE.at
  split
  · show prE (if S.known.getD i none = none then _ else _) = (if S.known.getD i none = none then _ else _) ∧ _
    split
    · exact ⟨by rw [prE_put h.know hi, prE_know h hi], h.know.put _⟩
    · exact ⟨rfl, h⟩
  · exact prE_heard h hi w.2
theorem prE_came (h : ChN n S) (hi : i < n) (w : Let) (r : List Let) : prE (S.came i w r) = ((prE S).pop i r).at ((i + 1) % n) w ∧ ChN n (S.came i w r) := by
  unfold ChSt.came
  have := prE_cameAt (h.pop (i := i) (r := r)) (nx_lt hi) w
  rw [prE_pop h hi] at this
  rw [h.ln]; exact this
end
/-- letters that came: as many as the ways have less -/
theorem len_come {n : Nat} {S : FE} {i a : Nat} {w : Let} {r : List Let} (hi : i < n) (ha : a < n) (e : S.rw i = w :: r) : fLen n ((S.pop i r).at a w) - ((S.pop i r).at a w).sent = fLen n S - S.sent - 1 := by
  have p := len_pop hi e
  have P : ∀ (T : FE) (w : Let), fLen n (T.put a w) - (T.put a w).sent = fLen n T - T.sent := fun T w => by
    rw [len_put ha]
    show fLen n T + 1 - (T.sent + 1) = _
    omega
  have key : fLen n (S.pop i r) - (S.pop i r).sent = fLen n S - S.sent - 1 := by rw [p]; show fLen n S - 1 - S.sent = _; omega
  unfold FE.at
  split
  · split
    · rw [P]; exact key
    · exact key
  · unfold FE.heard
    split
    · rw [P]; exact key
    · split
      · rw [P]; exact key
      · split
        · exact key
        · unfold FE.begun
          rw [P]; exact key
theorem len_begun {n : Nat} {S : FE} {i : Nat} (hi : i < n) : fLen n (S.begun i) - (S.begun i).sent = fLen n S - S.sent := by
  unfold FE.begun
  rw [len_put hi]
  show fLen n S + 1 - (S.sent + 1) = _
  omega
theorem fPhi_ge {n top : Nat} {S : FE} (ht : top < n) : S.sent ≤ fPhi n top S := by
  have a : 0 ≤ fA n top S := rsum_nonneg fun t h => Int.mul_nonneg (by have := off_lt ht h; omega) (cntN_nn _)
  have b : 0 ≤ fB n top S := rsum_nonneg fun t h => by
    have := off_lt ht h
    split <;> omega
  have c : 0 ≤ fC n S := rsum_nonneg fun t h => by split <;> decide
  unfold fPhi
  omega
section
variable {n top : Nat} {best : Int} {S : FE} {p : Ph}
/-- whoever was told anything was told the greatest -/
theorem EPh.known (h : EPh n top best S p) : ∀ i, i < n → S.kn i = none ∨ S.kn i = some best := fun i hi => by
  cases p with
  | idle => exact .inl (h.2.2 i hi)
  | go => exact .inl (h.2.1 i hi)
  | lead d => exact .inl (h.2.1 i hi)
  | tell e =>
    have := h.2.2.2.1 i hi
    split at this
    · exact .inr this
    · exact .inl this
  | done => exact .inr (h.2.2.1 i hi)
theorem EPh.free (h : EPh n top best S p) : ∀ i, i < n → S.ac i = false → S.kn i = none := fun i hi a => by
  cases p with
  | idle => exact h.2.2 i hi
  | go => exact h.2.1 i hi
  | lead d => exact h.2.1 i hi
  | tell e => rw [h.2.2.1 i hi] at a; cases a
  | done => rw [h.2.1 i hi] at a; cases a
theorem off_onto (ht : top < n) {d : Nat} (hd : d < n) : ∃ i, i < n ∧ off n top i = d := by
  by_cases c : top + d < n
  · exact ⟨top + d, c, by rw [off_eq ht c, if_pos (by omega)]; omega⟩
  · exact ⟨top + d - n, by omega, by rw [off_eq ht (by omega), if_neg (by omega)]; omega⟩
theorem EPh.over (ht : top < n) (h : EPh n top best S p) (e : ∀ i, i < n → S.rw i = []) (ni : p ≠ .idle) : EPh n top best S .done := by
  cases p with
  | idle => exact absurd rfl ni
  | go =>
    obtain ⟨_, _, _, m, i, _, hi, hw, _⟩ := h
    rw [e i hi] at hw; cases hw
  | lead d =>
    obtain ⟨i, hi, oi⟩ := off_onto ht h.1
    obtain ⟨q, eq, _⟩ := h.2.2.2.2.1 i hi oi
    rw [e i hi] at eq
    simp at eq
  | tell k =>
    obtain ⟨i, hi, oi⟩ := off_onto ht h.1
    have := h.2.1 i hi
    rw [e i hi, if_pos oi] at this; cases this
  | done => exact h
end
/-! ### a name that is not there yet -/
theorem php : ∀ (k : Nat) (l : List Int) (f : Nat → Int), (∀ i j, i < k → j < k → f i = f j → i = j) → (∀ i, i < k → f i ∈ l) → k ≤ l.length
  | 0, _, _, _, _ => Nat.zero_le _
  | k + 1, l, f, inj, mem => by
    have m := mem k (Nat.lt_succ_self k)
    have ih := php k (l.erase (f k)) f (fun i j hi hj => inj i j (by omega) (by omega)) fun i hi => by
      refine (List.mem_erase_of_ne fun z => ?_).mpr (mem i (by omega))
      have := inj i k (by omega) (by omega) z
      omega
    rw [List.length_erase_of_mem m] at ih
    have : 0 < l.length := List.length_pos_of_mem m
    omega
theorem fresh_name (l : List Int) (h : l.length < 1000) (x : Int) : ∃ t : Nat, t ≤ l.length ∧ (x + t) % 1000 ∉ l := Classical.byContradiction fun no => by
  have := php (l.length + 1) l (fun t => (x + t) % 1000) (fun i j hi hj e => by
    have e : (x + i) % 1000 = (x + j) % 1000 := e
    omega) fun t ht => Classical.byContradiction fun z => no ⟨t, by omega, z⟩
  omega

/-! ### the law -/
def spLaw (K : PySem.W.Frag) : Sp := fun vs H Q _ => ∃ (a : Addr) (ns : List Int), vs = [.ref a] ∧ SqL K H a (ns.map V.int) ∧ ns.length ≤ 63 ∧ ∀ H', Q (.bl true) H'
theorem ChAt.here {H : Hp} {L : ChL} {S : ChSt} (h : ChAt H L S) {b : Addr} (m1 : ChM L b) : ∃ o, H b = some o := by
  simp only [ChM, ChL.all, List.mem_cons] at m1
  rcases m1 with rfl | rfl | rfl | rfl | rfl | m1
  · exact ⟨_, h.rt⟩
  · exact ⟨_, h.nm⟩
  · exact ⟨_, h.ac⟩
  · exact ⟨_, h.kn⟩
  · exact ⟨_, h.rw⟩
  · obtain ⟨i, hi⟩ := List.getElem?_of_mem m1
    obtain ⟨p, r, ts, g1, g2, g3, g4⟩ := h.rowF (i := i) (by rw [← h.l4]; exact lt_at hi)
    rw [hi] at g1; cases g1
    exact ⟨_, g3⟩
theorem ChAt.new {H : Hp} {L : ChL} {S : ChSt} (h : ChAt H L S) {b : Addr} (hb : H b = none) : ¬ ChM L b := fun m1 => by
  obtain ⟨o, ho⟩ := h.here m1
  rw [hb] at ho; cases ho
theorem TownAt.new {H : Hp} {t c b : Addr} (h : TownAt H t c) (hb : H b = none) : b ≠ t ∧ b ≠ c := by
  obtain ⟨_, ns, k, h1, h2, _⟩ := h
  exact ⟨(ne_of_none h1 hb).symm, (ne_of_none h2 hb).symm⟩
theorem x_ninI {K : PySem.W.Frag} {H : Hp} {Q : VK} {a : Addr} {i : Int} {ns : List Int} (h : H a = some (.lst (ns.map V.int))) (k : Q (.bl (!decide (i ∈ ns))) H) : rIn K true (.int i) (.ref a) H Q :=
  ⟨a, _, rfl, .inl (SqL.of h), rfl, List.all_eq_true.mpr fun x hx => by obtain ⟨n, _, rfl⟩ := List.mem_map.mp hx; rfl, by rw [if_pos rfl, inV_int]; exact k⟩
theorem optN (o : Option Int) : decide (optV o = V.non) = decide (o = none) := by
  cases o with
  | none => rfl
  | some i =>
    show decide (V.int i = V.non) = _
    rw [decide_eq_false (fun z => nomatch z), decide_eq_false (fun z => nomatch z)]
theorem mem_idle {n : Nat} {f : Nat → Option Int} {i : Nat} (hi : i < n) : ((i : Int) ∈ ((List.range n).filter fun i => decide (f i = none)).map fun (i : Nat) => (i : Int)) ↔ f i = none := by
  rw [List.mem_map]
  constructor
  · rintro ⟨m, hm, e⟩
    have : m = i := by omega
    subst this
    exact of_decide_eq_true (List.mem_filter.mp hm).2
  · exact fun z => ⟨i, List.mem_filter.mpr ⟨List.mem_range.mpr hi, decide_eq_true z⟩, rfl⟩
/-- the town and the ring -/
structure CW (H : Hp) (t c : Addr) (L : ChL) (S : ChSt) : Prop where
  a : ChAt H L S
  tw : TownAt H t c
  dt : ¬ ChM L t
  dc : ¬ ChM L c
section
variable {H H' : Hp} {t c : Addr} {L : ChL} {S S' : ChSt}
theorem CW.fr0 (h : CW H t c L S) (f : Fr F0 H H') : CW H' t c L S := ⟨h.a.fr0 f, h.tw.fr0 f, h.dt, h.dc⟩
theorem CW.town (h : CW H t c L S) (tw : TownAt H' t c) (f : Fr (tF t c) H H') : CW H' t c L S := ⟨h.a.fr f fun b m z => by
  rcases z with rfl | rfl
  · exact h.dt m
  · exact h.dc m, tw, h.dt, h.dc⟩
theorem CW.step (h : CW H t c L S) (a : ChAt H' L S') (f : Fr (ChM L) H H') : CW H' t c L S' := ⟨a, h.tw.fr f h.dt h.dc, h.dt, h.dc⟩
end
theorem known_at {n : Nat} {S : ChSt} (h : ChN n S) {i : Nat} (hi : i < n) : S.known[i]? = some ((prE S).kn i) := by
  obtain ⟨o, ho⟩ := at_lt (xs := S.known) (i := i) (by rw [h.l2]; exact hi)
  show _ = some (S.known.getD i none)
  rw [getD_at ho]; exact ho
theorem act_at {n : Nat} {S : ChSt} (h : ChN n S) {i : Nat} (hi : i < n) : S.act[i]? = some ((prE S).ac i) := by
  obtain ⟨o, ho⟩ := at_lt (xs := S.act) (i := i) (by rw [h.l1]; exact hi)
  show _ = some (S.act.getD i false)
  rw [getD_at ho]; exact ho
theorem rows_at {n : Nat} {S : ChSt} (h : ChN n S) {i : Nat} (hi : i < n) : S.rows[i]? = some ((prE S).rw i) := by
  obtain ⟨o, ho⟩ := at_lt (xs := S.rows) (i := i) (by rw [h.l3]; exact hi)
  show _ = some (S.rows.getD i [])
  rw [getD_at ho]; exact ho
theorem ways_nil {n : Nat} {S : ChSt} (h : ChN n S) (e : S.ways = []) : ∀ i, i < n → (prE S).rw i = [] := fun i hi => by
  have := List.filter_eq_nil_iff.mp e i (List.mem_range.mpr (by rw [h.ln]; exact hi))
  show S.rows.getD i [] = []
  exact Classical.byContradiction fun z => this (by rw [decide_eq_false z]; rfl)
theorem short_of {n : Nat} {S : ChSt} (h : ChN n S) (b : fLen n (prE S) ≤ 1000) : S.short 1000 := fun i r hr => by
  have hi : i < n := by rw [← h.l3]; exact lt_at hr
  have := rsum_ge (f := fun i => (((prE S).rw i).length : Int)) (k := i) (m := n) (fun _ _ => Int.natCast_nonneg _) hi
  have e : (prE S).rw i = r := getD_at hr
  have this : (((prE S).rw i).length : Int) ≤ fLen n (prE S) := this
  rw [e] at this
  omega
theorem filt_known {n : Nat} (f : Nat → Option Int) (best : Int) (h : ∀ i, i < n → f i = none ∨ f i = some best) : ((List.range n).filter fun i => !decide (f i = none)).map (fun i => optV (f i)) = (List.replicate ((List.range n).filter fun i => !decide (f i = none)).length best).map V.int := by
  have : ∀ l : List Nat, (∀ i ∈ l, f i = none ∨ f i = some best) → (l.filter fun i => !decide (f i = none)).map (fun i => optV (f i)) = (List.replicate (l.filter fun i => !decide (f i = none)).length best).map V.int := by
    intro l
    induction l with
    | nil => intro _; rfl
    | cons i l ih =>
      intro m
      have ih := ih fun j hj => m j (List.mem_cons_of_mem _ hj)
      rcases m i List.mem_cons_self with z | z
      · rw [List.filter_cons_of_neg (by simp [z])]; exact ih
      · rw [List.filter_cons_of_pos (by simp [z]), List.map_cons, List.length_cons, List.replicate_succ, List.map_cons, ih, z]; rfl
  exact this _ fun i hi => h i (List.mem_range.mp hi)
theorem flat_ints (ns : List Int) : (ns.map V.int).all flatV = true := List.all_eq_true.mpr fun x hx => by
  obtain ⟨i, _, rfl⟩ := List.mem_map.mp hx
  rfl
theorem map_rep0 {α : Type} (v : α) {n : Nat} : List.replicate n v = (List.range n).map fun _ => v := by
  refine List.ext_getElem? fun i => ?_
  by_cases c : i < n
  · rw [List.getElem?_replicate, if_pos c, List.getElem?_map, List.getElem?_range c]; rfl
  · rw [List.getElem?_eq_none (by simpa using c), List.getElem?_eq_none (by simpa using c)]
theorem prE_new {ns : List Int} : ChN ns.length (chNew ns) := ⟨rfl, by simp [chNew], by simp [chNew], by simp [chNew]⟩
theorem sum_odd (n : Nat) : 2 * rsum n (fun i => (n : Int) - i) = n * (n + 1) := by
  have : ∀ m : Nat, 2 * rsum m (fun i => (n : Int) - i) = 2 * n * m - m * m + m := fun m => by
    induction m with
    | zero => simp [rsum]
    | succ m ih =>
      rw [rsum_succ, Int.mul_add, ih]
      have : ((m + 1 : Nat) : Int) * ((m + 1 : Nat) : Int) = (m : Int) * m + 2 * m + 1 := by
        have : ((m + 1 : Nat) : Int) = (m : Int) + 1 := by omega
        rw [this, Int.add_mul, Int.mul_add, Int.mul_add]; omega
      have e2 : 2 * (n : Int) * ((m + 1 : Nat) : Int) = 2 * (n : Int) * m + 2 * n := by
        have : ((m + 1 : Nat) : Int) = (m : Int) + 1 := by omega
        rw [this, Int.mul_add]; omega
      omega
  have a := this n
  have e3 : 2 * (n : Int) * n = 2 * (n * n) := Int.mul_assoc _ _ _
  have e4 : (n : Int) * (n + 1) = n * n + n := by rw [Int.mul_add]; omega
  omega
/-- a sum over all places, counted from any of them -/
theorem rsum_perm : ∀ (m : Nat) (g : Nat → Int) (p : Nat → Nat), (∀ i, i < m → p i < m) → (∀ i j, i < m → j < m → p i = p j → i = j) → rsum m (fun i => g (p i)) = rsum m g
  | 0, _, _, _, _ => rfl
  | m + 1, g, p, hp, inj => by
    -- swap so that the last one stays
    by_cases c : p m = m
    · rw [rsum_succ, rsum_succ, c, rsum_perm m g p (fun i hi => by
        have := hp i (by omega)
        have : p i ≠ m := fun z => by
          have := inj i m (by omega) (by omega) (z.trans c.symm)
          omega
        omega) fun i j hi hj => inj i j (by omega) (by omega)]
    · have hm := hp m (by omega)
      obtain ⟨k, hk, ek⟩ : ∃ k, k < m ∧ p k = m := Classical.byContradiction fun no => by
        have := php (m + 1) ((List.range m).map fun (i : Nat) => (i : Int)) (fun i => (p i : Int)) (fun i j hi hj e => inj i j hi hj (by have e : ((p i : Nat) : Int) = (p j : Nat) := e; omega)) fun i hi => List.mem_map.mpr ⟨p i, List.mem_range.mpr (by
          have a := hp i hi
          by_cases z : i = m
          · subst z; omega
          · have : p i ≠ m := fun y => no ⟨i, by omega, y⟩
            omega), rfl⟩
        rw [List.length_map, List.length_range] at this
        omega
      have ih := rsum_perm m g (fset p k (p m)) (fun i hi => by
        unfold fset
        split
        · omega
        · rename_i z
          have := hp i (by omega)
          have : p i ≠ m := fun y => z (inj i k (by omega) (by omega) (y.trans ek.symm))
          omega) fun i j hi hj e => by
          unfold fset at e
          split at e <;> split at e
          · omega
          · rename_i a b
            have := inj m j (by omega) (by omega) e
            omega
          · rename_i a b
            have := inj i m (by omega) (by omega) e
            omega
          · exact inj i j (by omega) (by omega) e
      rw [rsum_succ, rsum_succ, ← ih, rsum_set (f := fun i => g (p i)) (g := fun i => g (fset p k (p m) i)) (k := k) (fun t ht => by rw [fset_ne ht]) hk, fset_same, ek]
      omega
theorem php_idle {ns : List Int} {top : Nat} {best : Int} (ht : top < ns.length) (hb : ns.getD top 0 = best) (mx : ∀ i, i < ns.length → ns.getD i 0 ≤ best) (nd : ns.Nodup) : EB ns.length top best (prE (chNew ns)) ∧ EPh ns.length top best (prE (chNew ns)) .idle := by
  have R : ∀ i, (prE (chNew ns)).rw i = [] := fun i => by
    show (List.replicate ns.length ([] : List Let)).getD i [] = []
    rw [List.getD_eq_getElem?_getD, List.getElem?_replicate]
    split <;> rfl
  have A : ∀ i, (prE (chNew ns)).ac i = false := fun i => by
    show (List.replicate ns.length false).getD i false = false
    rw [List.getD_eq_getElem?_getD, List.getElem?_replicate]
    split <;> rfl
  have K : ∀ i, (prE (chNew ns)).kn i = none := fun i => by
    show (List.replicate ns.length (none : Option Int)).getD i none = none
    rw [List.getD_eq_getElem?_getD, List.getElem?_replicate]
    split <;> rfl
  refine ⟨⟨ht, hb, mx, fun i j hi hj e => ?_, (fun i hi x hx => by rw [R] at hx; cases hx), ?_, Int.le_refl _⟩, fun i _ => A i, fun i _ => R i, fun i _ => K i⟩
  · obtain ⟨x, hx⟩ := at_lt hi
    obtain ⟨y, hy⟩ := at_lt hj
    have e : ns.getD i 0 = ns.getD j 0 := e
    rw [getD_at hx, getD_at hy] at e
    subst e
    exact nodup_ix nd hx hy
  · have a : fA ns.length top (prE (chNew ns)) = 0 := rsum_zero fun i _ => by rw [R]; exact Int.mul_zero _
    have b : fB ns.length top (prE (chNew ns)) = rsum ns.length fun i => (ns.length : Int) - i := by
      unfold fB
      rw [← rsum_perm ns.length (fun i => (ns.length : Int) - i) (off ns.length top) (fun i hi => off_lt ht hi) fun i j hi hj => off_inj ht hi hj]
      exact rsum_congr fun i _ => by rw [A, if_neg Bool.false_ne_true]
    have c : fC ns.length (prE (chNew ns)) = ns.length := by
      have : ∀ m : Nat, rsum m (fun i => if (prE (chNew ns)).kn i = none then (1 : Int) else 0) = m := fun m => by
        induction m with
        | zero => rfl
        | succ m ih => rw [rsum_succ, ih, K, if_pos rfl]; omega
      exact this _
    have d := sum_odd ns.length
    unfold fPhi
    rw [a, b, c]
    show 2 * ((0 : Int) + 0 + _ + _) ≤ _
    omega

/-! ### the name of a refusal -/
def ref9 : List Str := ["BadNumber", "BadStart", "NoHand", "Asleep", "Awake", "TooMuch", "NoLetter", "NotNow", "BadStory"]
def word9 : List Str := ["number", "start", "hand", "asleep", "awake", "much", "letter", "now", "story"]
structure RefC (K : PySem.W.Frag) (D : Addr) (j : Nat) : Prop where
  ec : ExcC K D
  lt : j < 9
  k : ∀ i c, ref9[i]? = some c → PySem.W.kitOne K (.ref D) (.ref (He.ga K c)) = some (decide (i = j))
  ne : PySem.W.kitOne K (.ref D) (.ref (He.ga K "NetError")) = some true
  ve : PySem.W.kitOne K (.ref D) (.type "ValueError") = some true
def spRefuse (K : PySem.W.Frag) : Sp := fun vs H Q _ => ∃ (a D : Addr) (j : Nat) (w : Str), vs = [.ref a] ∧ H a = some (ExT (.ref D) none a) ∧ RefC K D j ∧ word9[j]? = some w ∧ ∀ H', Fr F0 H H' → Q (.str w) H'
theorem ok_refuse {G : En} (W : Wd G) : CalG G 1 "_law_refusal" (spRefuse G.K) [] := by
  refine run__law_refusal W (fun vs H Q E h => ?_) (fun vs H Q E h => ?_)
  · obtain ⟨a, D, j, w, rfl, _⟩ := h
    rfl
  obtain ⟨a, D, j, w, rfl, ha, R, hw, k⟩ := h
  have k0 := R.k 0 _ rfl
  have k1 := R.k 1 _ rfl
  have k2 := R.k 2 _ rfl
  have k3 := R.k 3 _ rfl
  have k4 := R.k 4 _ rfl
  have k5 := R.k 5 _ rfl
  have k6 := R.k 6 _ rfl
  have k7 := R.k 7 _ rfl
  have k8 := R.k 8 _ rfl
  unfold t__law_refusal
  walk_at "st"
  refine x_isX ha R.ec (.own _) k0 ?_
  walk_at "st"
  refine x_isX ha R.ec (.own _) k1 ?_
  walk_at "st"
  refine x_isX ha R.ec (.own _) k2 ?_
  walk_at "st"
  rename_i p1 hp1
  have ha1 := upd_new (o := .lst [.bl (decide (0 = j)), .bl (decide (1 = j)), .bl (decide (2 = j))]) ha hp1
  have f1 : Fr F0 H _ := .new (o := .lst [.bl (decide (0 = j)), .bl (decide (1 = j)), .bl (decide (2 = j))]) hp1
  have e1 : upd H p1 (.lst [.bl (decide (0 = j)), .bl (decide (1 = j)), .bl (decide (2 = j))]) p1 = some _ := upd_same
  generalize upd H p1 (.lst [.bl (decide (0 = j)), .bl (decide (1 = j)), .bl (decide (2 = j))]) = H1 at *
  refine x_isX ha1 R.ec (.own _) k3 ?_
  walk_at "st"
  refine x_isX ha1 R.ec (.own _) k4 ?_
  walk_at "st"
  refine x_isX ha1 R.ec (.own _) k5 ?_
  walk_at "st"
  rename_i p2 hp2
  refine ⟨_, _, _, _, rfl, rfl, upd_new e1 hp2, upd_same, Nat.le_of_ble_eq_true rfl, fun p3 hp3 => ?_⟩
  have f2 := (f1.then_new (o := .lst [.bl (decide (3 = j)), .bl (decide (4 = j)), .bl (decide (5 = j))]) hp2).then_new (o := .lst ([.bl (decide (0 = j)), .bl (decide (1 = j)), .bl (decide (2 = j))] ++ [.bl (decide (3 = j)), .bl (decide (4 = j)), .bl (decide (5 = j))])) hp3
  have ha2 := f2.at0 ha
  have e3 : upd (upd H1 p2 (.lst [.bl (decide (3 = j)), .bl (decide (4 = j)), .bl (decide (5 = j))])) p3 (.lst ([.bl (decide (0 = j)), .bl (decide (1 = j)), .bl (decide (2 = j))] ++ [.bl (decide (3 = j)), .bl (decide (4 = j)), .bl (decide (5 = j))])) p3 = some _ := upd_same
  generalize upd (upd H1 p2 (.lst [.bl (decide (3 = j)), .bl (decide (4 = j)), .bl (decide (5 = j))])) p3 (.lst ([.bl (decide (0 = j)), .bl (decide (1 = j)), .bl (decide (2 = j))] ++ [.bl (decide (3 = j)), .bl (decide (4 = j)), .bl (decide (5 = j))])) = H2 at *
  walk_at "st"
  refine x_isX ha2 R.ec (.own _) k6 ?_
  walk_at "st"
  refine x_isX ha2 R.ec (.own _) k7 ?_
  walk_at "st"
  refine x_isX ha2 R.ec (.own _) k8 ?_
  walk_at "st"
  rename_i p4 hp4
  refine ⟨_, _, _, _, rfl, rfl, upd_new e3 hp4, upd_same, Nat.le_of_ble_eq_true rfl, fun p5 hp5 => ?_⟩
  obtain ⟨bs, eb, lb⟩ : ∃ bs : List V, bs = (([.bl (decide (0 = j)), .bl (decide (1 = j)), .bl (decide (2 = j))] ++ [.bl (decide (3 = j)), .bl (decide (4 = j)), .bl (decide (5 = j))]) ++ [.bl (decide (6 = j)), .bl (decide (7 = j)), .bl (decide (8 = j))] : List V) ∧ bs.length = 9 := ⟨_, rfl, rfl⟩
  rw [← eb]
  have f3 := (f2.then_new (o := .lst [.bl (decide (6 = j)), .bl (decide (7 = j)), .bl (decide (8 = j))]) hp4).then_new (o := .lst bs) hp5
  have ha3 := f3.at0 ha
  have e5 : upd (upd H2 p4 (.lst [.bl (decide (6 = j)), .bl (decide (7 = j)), .bl (decide (8 = j))])) p5 (.lst bs) p5 = some (.lst bs) := upd_same
  generalize upd (upd H2 p4 (.lst [.bl (decide (6 = j)), .bl (decide (7 = j)), .bl (decide (8 = j))])) p5 (.lst bs) = H3 at *
  have lt := R.lt
  have facts : bs.all flatV = true ∧ bs.countP (fun z => eqV z (.bl true)) = 1 ∧ bs[j]? = some (.bl true) ∧ ∀ m z', m < j → bs[m]? = some z' → eqV z' (.bl true) = false := by
    subst eb
    have : j = 0 ∨ j = 1 ∨ j = 2 ∨ j = 3 ∨ j = 4 ∨ j = 5 ∨ j = 6 ∨ j = 7 ∨ j = 8 := by omega
    rcases this with rfl | rfl | rfl | rfl | rfl | rfl | rfl | rfl | rfl
    all_goals
      refine ⟨by decide, by decide, rfl, fun m z' hm hz => ?_⟩
      have : m = 0 ∨ m = 1 ∨ m = 2 ∨ m = 3 ∨ m = 4 ∨ m = 5 ∨ m = 6 ∨ m = 7 := by omega
      rcases this with rfl | rfl | rfl | rfl | rfl | rfl | rfl | rfl
      all_goals first
        | omega
        | (cases hz; decide)
  obtain ⟨g1, g2, g3, g4⟩ := facts
  walk_at "st"
  refine ⟨_, _, _, rfl, rfl, SqL.of e5, rfl, g1, ?_⟩
  rw [g2]
  walk_at "st"
  refine x_isX ha3 R.ec (.own _) R.ne ?_
  walk_at "st"
  refine x_isX ha3 R.ec (.ty _) R.ve ?_
  walk_at "st"
  rename_i p6 hp6
  refine ⟨_, _, _, j, _, rfl, rfl, SqL.of (upd_new e5 hp6), rfl, g1, g3, by decide, g4, ?_⟩
  have : ((["number", "start", "hand", "asleep", "awake", "much", "letter", "now", "story"] : List Str).map V.str)[j]? = some (.str w) := by
    rw [List.getElem?_map]
    show Option.map V.str (word9[j]?) = _
    rw [hw]; rfl
  refine x_ixL upd_same rfl this ?_
  exact k _ (f3.then_new hp6)

theorem refC_BadNumber {G : En} (W : Wd G) : RefC G.K (He.ga G.K "BadNumber") 0 where
  ec := W.x_BadNumber.ec
  lt := by decide
  ne := W.r_BadNumber_NetError.ki
  ve := W.v_BadNumber
  k := fun i c h => by
    have : i < 9 := lt_at h
    have : i = 0 ∨ i = 1 ∨ i = 2 ∨ i = 3 ∨ i = 4 ∨ i = 5 ∨ i = 6 ∨ i = 7 ∨ i = 8 := by omega
    rcases this with rfl | rfl | rfl | rfl | rfl | rfl | rfl | rfl | rfl
    · cases h; exact W.r_BadNumber_BadNumber.ki
    · cases h; exact W.r_BadNumber_BadStart.ki
    · cases h; exact W.r_BadNumber_NoHand.ki
    · cases h; exact W.r_BadNumber_Asleep.ki
    · cases h; exact W.r_BadNumber_Awake.ki
    · cases h; exact W.r_BadNumber_TooMuch.ki
    · cases h; exact W.r_BadNumber_NoLetter.ki
    · cases h; exact W.r_BadNumber_NotNow.ki
    · cases h; exact W.r_BadNumber_BadStory.ki

theorem refC_NoHand {G : En} (W : Wd G) : RefC G.K (He.ga G.K "NoHand") 2 where
  ec := W.x_NoHand.ec
  lt := by decide
  ne := W.r_NoHand_NetError.ki
  ve := W.v_NoHand
  k := fun i c h => by
    have : i < 9 := lt_at h
    have : i = 0 ∨ i = 1 ∨ i = 2 ∨ i = 3 ∨ i = 4 ∨ i = 5 ∨ i = 6 ∨ i = 7 ∨ i = 8 := by omega
    rcases this with rfl | rfl | rfl | rfl | rfl | rfl | rfl | rfl | rfl
    · cases h; exact W.r_NoHand_BadNumber.ki
    · cases h; exact W.r_NoHand_BadStart.ki
    · cases h; exact W.r_NoHand_NoHand.ki
    · cases h; exact W.r_NoHand_Asleep.ki
    · cases h; exact W.r_NoHand_Awake.ki
    · cases h; exact W.r_NoHand_TooMuch.ki
    · cases h; exact W.r_NoHand_NoLetter.ki
    · cases h; exact W.r_NoHand_NotNow.ki
    · cases h; exact W.r_NoHand_BadStory.ki

theorem refC_NoLetter {G : En} (W : Wd G) : RefC G.K (He.ga G.K "NoLetter") 6 where
  ec := W.x_NoLetter.ec
  lt := by decide
  ne := W.r_NoLetter_NetError.ki
  ve := W.v_NoLetter
  k := fun i c h => by
    have : i < 9 := lt_at h
    have : i = 0 ∨ i = 1 ∨ i = 2 ∨ i = 3 ∨ i = 4 ∨ i = 5 ∨ i = 6 ∨ i = 7 ∨ i = 8 := by omega
    rcases this with rfl | rfl | rfl | rfl | rfl | rfl | rfl | rfl | rfl
    · cases h; exact W.r_NoLetter_BadNumber.ki
    · cases h; exact W.r_NoLetter_BadStart.ki
    · cases h; exact W.r_NoLetter_NoHand.ki
    · cases h; exact W.r_NoLetter_Asleep.ki
    · cases h; exact W.r_NoLetter_Awake.ki
    · cases h; exact W.r_NoLetter_TooMuch.ki
    · cases h; exact W.r_NoLetter_NoLetter.ki
    · cases h; exact W.r_NoLetter_NotNow.ki
    · cases h; exact W.r_NoLetter_BadStory.ki

theorem refC_NotNow {G : En} (W : Wd G) : RefC G.K (He.ga G.K "NotNow") 7 where
  ec := W.x_NotNow.ec
  lt := by decide
  ne := W.r_NotNow_NetError.ki
  ve := W.v_NotNow
  k := fun i c h => by
    have : i < 9 := lt_at h
    have : i = 0 ∨ i = 1 ∨ i = 2 ∨ i = 3 ∨ i = 4 ∨ i = 5 ∨ i = 6 ∨ i = 7 ∨ i = 8 := by omega
    rcases this with rfl | rfl | rfl | rfl | rfl | rfl | rfl | rfl | rfl
    · cases h; exact W.r_NotNow_BadNumber.ki
    · cases h; exact W.r_NotNow_BadStart.ki
    · cases h; exact W.r_NotNow_NoHand.ki
    · cases h; exact W.r_NotNow_Asleep.ki
    · cases h; exact W.r_NotNow_Awake.ki
    · cases h; exact W.r_NotNow_TooMuch.ki
    · cases h; exact W.r_NotNow_NoLetter.ki
    · cases h; exact W.r_NotNow_NotNow.ki
    · cases h; exact W.r_NotNow_BadStory.ki

/-! ### what is no whole number in bounds; refusals of a ring -/
inductive WhB (H : Hp) (lo hi : Int) : V → Bool → Prop
  | int (i : Int) {b : Bool} (e : b = decide (lo ≤ i ∧ i ≤ hi)) : WhB H lo hi (.int i) b
  | bl (b : Bool) : WhB H lo hi (.bl b) false
  | non : WhB H lo hi .non false
  | str (s : Str) : WhB H lo hi (.str s) false
  | lst {a : Addr} {xs : List V} (h : H a = some (.lst xs)) : WhB H lo hi (.ref a) false
theorem WhB.fr0 {H H' : Hp} {lo hi : Int} {x : V} {b : Bool} (h : WhB H lo hi x b) (f : Fr F0 H H') : WhB H' lo hi x b := by
  cases h with
  | int i e => exact .int i e
  | bl b => exact .bl b
  | non => exact .non
  | str s => exact .str s
  | lst h => exact .lst (f.at0 h)
def spWB : Sp := fun vs H Q _ => ∃ (x : V) (lo hi : Int) (b : Bool), vs = [x, .int lo, .int hi] ∧ WhB H lo hi x b ∧ Q (.bl b) H
theorem ok_wb {G : En} (W : Wd G) : CalG G 1 "is_whole" spWB [] := by
  refine run_is_whole W (fun vs H Q E h => ?_) (fun vs H Q E h => ?_)
  · obtain ⟨x, lo, hi, b, rfl, _⟩ := h
    rfl
  obtain ⟨x, lo, hi, b, rfl, wb, k⟩ := h
  unfold t_is_whole
  cases wb with
  | int i e =>
    subst e
    walk_at "st"
    refine x_d2 (fun h1 => ?_) (fun h1 => ?_)
    · walk_at "st"
      show Q _ H
      rw [show decide (i ≤ hi) = decide (lo ≤ i ∧ i ≤ hi) by simp [h1]]
      exact k
    · show Q _ H
      rw [show false = decide (lo ≤ i ∧ i ≤ hi) by simp [h1]]
      exact k
  | bl b =>
    walk_at "st"
    exact k
  | non =>
    walk_at "st"
    exact k
  | str s =>
    walk_at "st"
    exact k
  | lst h =>
    walk_at "st"
    exact k
def spLookE (K : PySem.W.Frag) : Sp := fun vs H Q E => ∃ (L : ChL) (S : ChSt) (x : V) (b : Bool), vs = [.ref L.root, x] ∧ chObj K L ∧ ChAt H L S ∧ WhB H 0 ((S.names.length : Int) - 1) x b ∧ (b = true → Q .non H) ∧ (b = false → E (.ref (He.ga K "NoHand")) none H)
theorem ok_lookE {G : En} (W : Wd G) (q1 : CalG G 1 "is_whole" spWB []) : MetE G 2 (cl_Choice G.K) "look_place" (spLookE G.K) [] := by
  refine runE_Choice_look_place W (fun vs H Q E h => ?_) (fun vs H Q E h => ?_)
  · obtain ⟨L, S, x, b, rfl, _⟩ := h
    rfl
  obtain ⟨L, S, x, b, rfl, ⟨dx, e⟩, h, wb, k, kE⟩ := h
  have rt := h.rt
  simp only [e] at rt
  have nm := h.nm
  unfold tE_Choice_look_place
  walk_at "st"
  refine ⟨x, _, _, b, rfl, by rw [List.length_map]; exact wb, ?_⟩
  walk_at "st"
  cases b with
  | true =>
    walk_at "st"
    exact k rfl
  | false =>
    walk_at "st"
    exact kE rfl
def OddP (K : PySem.W.Frag) (vs : List V) (H : Hp) (E : XK) : Prop := ∃ (L : ChL) (S : ChSt) (x : V), vs = [.ref L.root, x] ∧ chObj K L ∧ ChAt H L S ∧ WhB H 0 ((S.names.length : Int) - 1) x false ∧ E (.ref (He.ga K "NoHand")) none H
theorem whB_nat {H : Hp} {n i : Nat} (h : i < n) : WhB H 0 ((n : Int) - 1) (.int i) true := .int _ (by rw [decide_eq_true]; omega)
def spBegO (K : PySem.W.Frag) : Sp := fun vs H Q E => ∃ (L : ChL) (S : ChSt) (i : Nat) (a : Bool) (o : Option Int), vs = [.ref L.root, .int i] ∧ chObj K L ∧ ChAt H L S ∧ i < S.names.length ∧ S.short 1000 ∧ S.act[i]? = some a ∧ S.known[i]? = some o ∧
  (a = false → o = none → ∀ H', ChAt H' L (S.begun i) → Fr (ChM L) H H' → Q .non H') ∧ (¬ (a = false ∧ o = none) → E (.ref (He.ga K "NotNow")) none H)
def spBegE (K : PySem.W.Frag) : Sp := fun vs H Q E => OddP K vs H E ∨ spBegO K vs H Q E
theorem ok_begE {G : En} (W : Wd G) (q1 : MetE G 2 (cl_Choice G.K) "look_place" (spLookE G.K) []) (q2 : MetG G 1 (cl_Choice G.K) "put" (spPut G.K) []) : MetE G 3 (cl_Choice G.K) "begin" (spBegE G.K) [] := by
  refine runE_Choice_begin W (fun vs H Q E h => ?_) (fun vs H Q E h => ?_)
  · rcases h with ⟨L, S, x, rfl, _⟩ | ⟨L, S, i, a, o, rfl, _⟩ <;> rfl
  unfold tE_Choice_begin
  rcases h with ⟨L, S, x, rfl, ⟨dx, e⟩, h, wb, kE⟩ | ⟨L, S, i, a, o, rfl, ⟨dx, e⟩, h, hi, sh, ha, hk, k, kE⟩
  · have rt := h.rt
    simp only [e] at rt
    walk_at "st"
    exact ⟨L, S, x, false, rfl, ⟨dx, e⟩, h, wb, (fun z => nomatch z), fun _ => kE⟩
  have rt := h.rt
  simp only [e] at rt
  have nm := h.nm
  have ac := h.ac
  have kn := h.kn
  walk_at "st"
  refine ⟨L, S, _, true, rfl, ⟨dx, e⟩, h, whB_nat hi, fun _ => ?_, (fun z => nomatch z)⟩
  walk_at "st"
  cases a with
  | true =>
    walk_at "st"
    exact kE (fun z => nomatch z.1)
  | false =>
    walk_at "st"
    cases o with
    | some m =>
      refine x_ndf (fun z => nomatch (show V.int m = V.non from z)) ?_
      walk_at "st"
      exact kE (fun z => nomatch z.2)
    | none =>
      refine x_ndt rfl ?_
      walk_at "st"
      refine x_setL ac rfl (by rw [List.length_map, h.l1]; exact hi) ?_
      rw [map_set V.bl]
      have h' := h.setAct i true
      have f1 : Fr (ChM L) H _ := .put (o := .lst ((S.act.set i true).map V.bl)) ac trivial (.la L)
      have rt' := h'.rt
      simp only [e] at rt'
      have nm' := h'.nm
      obtain ⟨x, hx⟩ := at_lt hi
      walk_at "st"
      refine ⟨L, { S with act := S.act.set i true }, i, false, x, rfl, ⟨dx, e⟩, h', hi, sh, fun H' h2 f2 => ?_⟩
      walk_at "st"
      refine k rfl rfl H' ?_ (f1.trans f2)
      unfold ChSt.begun
      rw [getD_at hx]
      exact h2
def spComeE (K : PySem.W.Frag) : Sp := fun vs H _ E => OddP K vs H E ∨ ∃ (L : ChL) (S : ChSt) (i : Nat), vs = [.ref L.root, .int i] ∧ chObj K L ∧ ChAt H L S ∧ i < S.names.length ∧ S.rows[i]? = some [] ∧ ∀ H', Fr F0 H H' → E (.ref (He.ga K "NoLetter")) none H'
theorem ok_comeE {G : En} (W : Wd G) (q1 : MetE G 2 (cl_Choice G.K) "look_place" (spLookE G.K) []) : MetE G 5 (cl_Choice G.K) "come" (spComeE G.K) [] := by
  refine runE_Choice_come W (fun vs H Q E h => ?_) (fun vs H Q E h => ?_)
  · rcases h with ⟨L, S, x, rfl, _⟩ | ⟨L, S, i, rfl, _⟩ <;> rfl
  unfold tE_Choice_come
  rcases h with ⟨L, S, x, rfl, ⟨dx, e⟩, h, wb, kE⟩ | ⟨L, S, i, rfl, ⟨dx, e⟩, h, hi, hr, kE⟩
  · have rt := h.rt
    simp only [e] at rt
    walk_at "st"
    exact ⟨L, S, x, false, rfl, ⟨dx, e⟩, h, wb, (fun z => nomatch z), fun _ => kE⟩
  have rt := h.rt
  simp only [e] at rt
  have rw_ := h.rw
  obtain ⟨p, hp⟩ := at_lt (xs := L.rws) (i := i) (by rw [h.l4]; exact hi)
  obtain ⟨ts, h1, h2⟩ := h.row i p _ hp hr
  walk_at "st"
  refine ⟨L, S, _, true, rfl, ⟨dx, e⟩, h, whB_nat hi, fun _ => ?_, (fun z => nomatch z)⟩
  walk_at "st"
  rename_i z hz
  have fz : Fr F0 H (upd H z (.lst [])) := .new hz
  refine x_eqL encLet (lst_lets (ws := []) (fz.at0 h1) (h2.fr fz)) (lst_nil encLet upd_same) ?_
  refine x_isB (x_dt rfl ?_)
  walk_at "st"
  exact kE _ fz
def spToldE (K : PySem.W.Frag) : Sp := fun vs H _ E => OddP K vs H E
theorem ok_toldE {G : En} (W : Wd G) (q1 : MetE G 2 (cl_Choice G.K) "look_place" (spLookE G.K) []) : MetE G 3 (cl_Choice G.K) "told" (spToldE G.K) [] := by
  refine runE_Choice_told W (fun vs H Q E h => ?_) (fun vs H Q E h => ?_)
  · obtain ⟨L, S, x, rfl, _⟩ := h
    rfl
  obtain ⟨L, S, x, rfl, ⟨dx, e⟩, h, wb, kE⟩ := h
  have rt := h.rt
  simp only [e] at rt
  unfold tE_Choice_told
  walk_at "st"
  exact ⟨L, S, x, false, rfl, ⟨dx, e⟩, h, wb, (fun z => nomatch z), fun _ => kE⟩
inductive BadN (H : Hp) : V → Prop
  | non : BadN H .non
  | int (i : Int) : BadN H (.int i)
  | str (s : Str) : BadN H (.str s)
  | tup {a : Addr} {xs : List V} (h : H a = some (.tup xs)) : BadN H (.ref a)
  | len {a : Addr} {xs : List V} (h : H a = some (.lst xs)) (hl : ¬ (2 ≤ xs.length ∧ xs.length ≤ 10)) : BadN H (.ref a)
  | odd {a : Addr} {xs : List V} (h : H a = some (.lst xs)) (hl : 2 ≤ xs.length ∧ xs.length ≤ 10) (bs : Nat → Bool) (hb : ∀ i v, xs[i]? = some v → WhB H 0 999 v (bs i)) (i : Nat) (hi : i < xs.length) (bi : bs i = false) : BadN H (.ref a)
  | dup {a : Addr} {ns : List Int} (h : H a = some (.lst (ns.map V.int))) (hl : 2 ≤ ns.length ∧ ns.length ≤ 10) (hb : ∀ n ∈ ns, 0 ≤ n ∧ n ≤ 999) (nd : ¬ ns.Nodup) : BadN H (.ref a)
theorem BadN.fr0 {H H' : Hp} {x : V} (h : BadN H x) (f : Fr F0 H H') : BadN H' x := by
  cases h with
  | non => exact .non
  | int i => exact .int i
  | str s => exact .str s
  | tup h => exact .tup (f.tup _ _ h)
  | len h hl => exact .len (f.at0 h) hl
  | odd h hl bs hb i hi bi => exact .odd (f.at0 h) hl bs (fun i v e => (hb i v e).fr0 f) i hi bi
  | dup h hl hb nd => exact .dup (f.at0 h) hl hb nd
def spMadeE (K : PySem.W.Frag) : Sp := fun vs H _ E => ∃ (x dx : Addr) (v : V), vs = [.ref x, v] ∧ H x = some (.ins (cl_Choice K) dx []) ∧ BadN H v ∧ ∀ H', Fr F0 H H' → E (.ref (He.ga K "BadNumber")) none H'
theorem ok_madeE {G : En} (W : Wd G) (q1 : CalG G 1 "is_whole" spWB []) : MakE G 2 "Choice" (cl_Choice G.K) (spMadeE G.K) [] := by
  refine runE_Choice_init W (fun vs H Q E h => ?_) (fun vs H Q E h => ?_)
  · obtain ⟨x, dx, v, rfl, _⟩ := h
    rfl
  obtain ⟨x, dx, v, rfl, hx, bad, kE⟩ := h
  unfold tE_Choice_init
  cases bad with
  | non =>
    walk_at "st"
    exact kE _ (.refl _)
  | int i =>
    walk_at "st"
    exact kE _ (.refl _)
  | str s =>
    walk_at "st"
    exact kE _ (.refl _)
  | tup h =>
    walk_at "st"
    exact kE _ (.refl _)
  | len h hl =>
    rename_i a xs
    walk_at "st"
    by_cases c : (2 : Int) ≤ xs.length
    · refine x_dt c ?_
      walk_at "st"
      rw [decide_eq_false (show ¬ (xs.length : Int) ≤ 10 by omega)]
      walk_at "st"
      exact kE _ (.refl _)
    · refine x_df c ?_
      walk_at "st"
      exact kE _ (.refl _)
  | odd h hl bs hb i hi bi =>
    rename_i a xs
    walk_at "st"
    refine x_dt (by omega) ?_
    walk_at "st"
    rw [decide_eq_true (show (xs.length : Int) ≤ 10 by omega)]
    walk_at "st"
    refine lc_lstP xs (fun _ => true) (fun i => .bl (bs i)) (by omega) h (fun j v H1 Kv Kn hj f k1 k2 => ?_) (fun D H1 hD f e => ?_)
    · refine ⟨rfl, lc_yes (x_t ?_)⟩
      walk_at "st"
      exact ⟨v, _, _, bs j, rfl, (hb j v hj).fr0 f, k1 rfl H1 (.refl H1)⟩
    walk_at "st"
    refine x_all (bs := (List.range xs.length).map bs) ?_ ?_
    · rw [e, filt_all, List.map_map]; rfl
    have : ((List.range xs.length).map bs).all id = false := by
      rw [List.all_eq_false]
      exact ⟨bs i, List.mem_map.mpr ⟨i, List.mem_range.mpr hi, rfl⟩, by rw [bi]; exact Bool.false_ne_true⟩
    rw [this]
    walk_at "st"
    exact kE _ f
  | dup h hl hb nd =>
    rename_i a ns
    have lm : (ns.map V.int).length = ns.length := List.length_map _
    walk_at "st"
    rw [lm]
    refine x_dt (by omega) ?_
    walk_at "st"
    rw [decide_eq_true (show (ns.length : Int) ≤ 10 by omega)]
    walk_at "st"
    refine lc_lstP (ns.map V.int) (fun _ => true) (fun _ => .bl true) (by omega) h (fun j v H1 Kv Kn hj f k1 k2 => ?_) (fun D H1 hD f e => ?_)
    · rw [List.getElem?_map] at hj
      obtain ⟨n, hn, rfl⟩ := Option.map_eq_some_iff.mp hj
      refine ⟨rfl, lc_yes (x_t ?_)⟩
      walk_at "st"
      refine ⟨_, _, _, true, rfl, .int n ?_, k1 rfl H1 (.refl H1)⟩
      exact (decide_eq_true (hb n (List.mem_of_getElem? hn))).symm
    walk_at "st"
    refine x_all (bs := (List.range ns.length).map fun _ => true) ?_ ?_
    · rw [e, filt_all, List.map_map, lm]; rfl
    have : ((List.range ns.length).map fun _ => true).all id = true := by
      rw [List.all_eq_true]
      intro b hb
      obtain ⟨_, _, rfl⟩ := List.mem_map.mp hb
      rfl
    rw [this]
    walk_at "st"
    have h1 := f.at0 h
    refine x_lenSetg h1 (by omega) ?_
    walk_at "st"
    rw [lm]
    refine x_dt ?_ ?_
    · by_cases c : (dcount ns : Int) < ns.length
      · exact c
      · exact absurd (nodup_of_dcount c) nd
    walk_at "st"
    exact kE _ f
/-- one of the four deeds, as the law does it -/
def spDid (K : PySem.W.Frag) : Sp := fun vs H Q _ =>
  (∃ (L : ChL) (S : ChSt) (x : V) (k : Nat), vs = [.ref L.root, .int k, x] ∧ k < 3 ∧ chObj K L ∧ ChAt H L S ∧ WhB H 0 ((S.names.length : Int) - 1) x false ∧ ∀ H', Fr F0 H H' → Q (.str "hand") H') ∨
  (∃ (L : ChL) (S : ChSt) (i : Nat) (a : Bool) (o : Option Int), vs = [.ref L.root, .int 0, .int i] ∧ chObj K L ∧ ChAt H L S ∧ i < S.names.length ∧ S.short 1000 ∧ S.act[i]? = some a ∧ S.known[i]? = some o ∧
    (a = false → o = none → ∀ H', ChAt H' L (S.begun i) → Fr (ChM L) H H' → Q (.str "told") H') ∧ (¬ (a = false ∧ o = none) → ∀ H', Fr F0 H H' → Q (.str "now") H')) ∨
  (∃ (L : ChL) (S : ChSt) (i : Nat), vs = [.ref L.root, .int 1, .int i] ∧ chObj K L ∧ ChAt H L S ∧ i < S.names.length ∧ S.rows[i]? = some [] ∧ ∀ H', Fr F0 H H' → Q (.str "letter") H') ∨
  (∃ v : V, vs = [.non, .int 3, v] ∧ BadN H v ∧ ∀ H', Fr F0 H H' → Q (.str "number") H') ∨
  ∃ (l : Addr) (ns : List Int), vs = [.non, .int 3, .ref l] ∧ H l = some (.lst (ns.map V.int)) ∧ 2 ≤ ns.length ∧ ns.length ≤ 10 ∧ (∀ n ∈ ns, 0 ≤ n ∧ n ≤ 999) ∧ ns.Nodup ∧ ∀ H', Fr F0 H H' → Q (.str "told") H'
theorem ok_did {G : En} (W : Wd G) : CalG G 6 "_law_did" (spDid G.K) [] := by
  have q0 := ok_lookE W (ok_wb W)
  have m0 := ok_begE W q0 (ok_put W)
  have m1 := ok_comeE W q0
  have m2 := ok_toldE W q0
  have c1 := ok_refuse W
  refine run__law_did W (fun vs H Q E h => ?_) (fun vs H Q E h => ?_)
  · rcases h with ⟨L, S, x, k, rfl, _⟩ | ⟨L, S, i, a, o, rfl, _⟩ | ⟨L, S, i, rfl, _⟩ | ⟨v, rfl, _⟩ | ⟨l, ns, rfl, _⟩ <;> rfl
  unfold t__law_did
  rcases h with ⟨L, S, x, k, rfl, hk, ⟨dx, e⟩, h, wb, kQ⟩ | ⟨L, S, i, a, o, rfl, ⟨dx, e⟩, h, hi, sh, ha, ho, k, kN⟩ | ⟨L, S, i, rfl, ⟨dx, e⟩, h, hi, hr, kQ⟩ | ⟨v, rfl, bad, kQ⟩ | ⟨l, ns, rfl, hl, n2, n10, rg, nd, kQ⟩
  · have rt := h.rt
    simp only [e] at rt
    obtain rfl | rfl | rfl : k = 0 ∨ k = 1 ∨ k = 2 := by omega
    · walk_at "st"
      refine .inl ⟨L, S, x, rfl, ⟨dx, e⟩, h, wb, ?_⟩
      show wCl _ _ _ _ _ _ _ _
      refine wCl_yes W.r_NoHand_NetError.ex fun a ha => ?_
      walk_at "st"
      dsimp only [endsT]
      walk_at "st"
      exact ⟨a, _, 2, _, rfl, upd_same, refC_NoHand W, rfl, fun H' f' => kQ H' ((Fr.new ha).trans f')⟩
    · walk_at "st"
      refine .inl ⟨L, S, x, rfl, ⟨dx, e⟩, h, wb, ?_⟩
      show wCl _ _ _ _ _ _ _ _
      refine wCl_yes W.r_NoHand_NetError.ex fun a ha => ?_
      walk_at "st"
      dsimp only [endsT]
      walk_at "st"
      exact ⟨a, _, 2, _, rfl, upd_same, refC_NoHand W, rfl, fun H' f' => kQ H' ((Fr.new ha).trans f')⟩
    · walk_at "st"
      refine ⟨L, S, x, rfl, ⟨dx, e⟩, h, wb, ?_⟩
      show wCl _ _ _ _ _ _ _ _
      refine wCl_yes W.r_NoHand_NetError.ex fun a ha => ?_
      walk_at "st"
      dsimp only [endsT]
      walk_at "st"
      exact ⟨a, _, 2, _, rfl, upd_same, refC_NoHand W, rfl, fun H' f' => kQ H' ((Fr.new ha).trans f')⟩
  · have rt := h.rt
    simp only [e] at rt
    walk_at "st"
    refine .inr ⟨L, S, i, a, o, rfl, ⟨dx, e⟩, h, hi, sh, ha, ho, fun ea eo H' h' f' => ?_, fun no => ?_⟩
    · walk_at "st"
      exact k ea eo H' h' f'
    · show wCl _ _ _ _ _ _ _ _
      refine wCl_yes W.r_NotNow_NetError.ex fun a ha => ?_
      walk_at "st"
      dsimp only [endsT]
      walk_at "st"
      exact ⟨a, _, 7, _, rfl, upd_same, refC_NotNow W, rfl, fun H' f' => kN no H' ((Fr.new ha).trans f')⟩
  · have rt := h.rt
    simp only [e] at rt
    walk_at "st"
    refine .inr ⟨L, S, i, rfl, ⟨dx, e⟩, h, hi, hr, fun H1 f1 => ?_⟩
    show wCl _ _ _ _ _ _ _ _
    refine wCl_yes W.r_NoLetter_NetError.ex fun a ha => ?_
    walk_at "st"
    dsimp only [endsT]
    walk_at "st"
    exact ⟨a, _, 6, _, rfl, upd_same, refC_NoLetter W, rfl, fun H' f' => kQ H' ((f1.then_new ha).trans f')⟩
  · have mk := ok_madeE W (ok_wb W)
    walk_at "st"
    intro x dx hx hdx dxx
    have f0 : Fr F0 H (upd (upd H dx (.own x)) x (.ins (cl_Choice G.K) dx [])) := (Fr.new hdx).then_new (upd_none.mpr ⟨dxx.symm, hx⟩)
    refine ⟨x, dx, v, rfl, upd_same, bad.fr0 f0, fun H1 f1 => ?_⟩
    show wCl _ _ _ _ _ _ _ _
    refine wCl_yes W.r_BadNumber_NetError.ex fun a ha => ?_
    walk_at "st"
    dsimp only [endsT]
    walk_at "st"
    exact ⟨a, _, 0, _, rfl, upd_same, refC_BadNumber W, rfl, fun H' f' => kQ H' (((f0.trans f1).then_new ha).trans f')⟩
  · have mk := ok_init W (ok_is_whole W)
    walk_at "st"
    intro x dx hx hdx dxx
    have lx : l ≠ x := ne_of_none hl hx
    have f0 : Fr F0 H (upd (upd H dx (.own x)) x (.ins (cl_Choice G.K) dx [])) := (Fr.new hdx).then_new (upd_none.mpr ⟨dxx.symm, hx⟩)
    refine ⟨x, l, dx, ns, rfl, upd_same, f0.at0 hl, n2, n10, rg, nd, fun L H1 e1 _ _ _ f1 => ⟨rfl, ?_⟩⟩
    walk_at "st"
    exact kQ _ (f0.trans' f1 fun b z => .inr (by rw [z]; exact hx))

/-! ### the law -/
section
def encHand : Enc Unit := ⟨fun _ => .str "hand", fun a b => by cases a; cases b; decide +kernel, fun _ => by decide +kernel, fun _ => by decide⟩
def encNow : Enc Unit := ⟨fun _ => .str "now", fun a b => by cases a; cases b; decide +kernel, fun _ => by decide +kernel, fun _ => by decide⟩
theorem dp_strs {K : PySem.W.Frag} {H : Hp} (w : Str) : ∀ n : Nat, DpAll K H (List.replicate n (.str w)) (List.replicate n (.str w))
  | 0 => .nil
  | n + 1 => .cons (.str w) (dp_strs w n)
theorem lst_hand {K : PySem.W.Frag} {H : Hp} {a : Addr} {n : Nat} (h : H a = some (.lst (List.replicate n (.str "hand")))) : LstD K H (.ref a) ((List.replicate n ()).map encHand.f) := ⟨a, _, rfl, SqL.of h, by rw [List.map_replicate]; exact dp_strs _ n⟩
theorem lst_now {K : PySem.W.Frag} {H : Hp} {a : Addr} {n : Nat} (h : H a = some (.lst (List.replicate n (.str "now")))) : LstD K H (.ref a) ((List.replicate n ()).map encNow.f) := ⟨a, _, rfl, SqL.of h, by rw [List.map_replicate]; exact dp_strs _ n⟩
theorem x_sl {r : V → Option Int → Option Int → Hp → VK → Prop} {te : TE} {tl th : TO} {σ : Stt} {H : Hp} {Q : VK} (k : te σ H fun x H1 => tl σ H1 fun l H2 => th σ H2 fun u H3 => r x l u H3 Q) : tSl r te tl th σ H Q := k
theorem x_nopart {σ : Stt} {H : Hp} {Q : Option Int → Hp → Prop} (k : Q none H) : tNoPart σ H Q := k
theorem x_part {t : TE} {σ : Stt} {H : Hp} {Q : Option Int → Hp → Prop} (k : t σ H fun x H1 => ∃ i, x = .int i ∧ Q (some i) H1) : tPart t σ H Q := k
theorem x_slL {K : PySem.W.Frag} {H : Hp} {Q : VK} {a : Addr} {xs : List V} {lo hi : Option Int} (h : H a = some (.lst xs)) (k : ∀ p, H p = none → Q (.ref p) (upd H p (.lst (cutV xs lo hi)))) : rSlL K (.ref a) lo hi H Q := ⟨a, xs, rfl, SqL.of h, k⟩
theorem cut_but {ns : List Int} : cutV (ns.map V.int) none (some (-1)) = ns.dropLast.map V.int := by
  unfold cutV HT.sIx
  dsimp only
  rw [if_pos (by decide), List.length_map, List.drop_zero, Nat.sub_zero, show ((-1 : Int) + (ns.length : Int)).toNat = ns.length - 1 by omega, ← List.map_take, List.dropLast_eq_take]
theorem cut_one {xs : List V} (h : 1 ≤ xs.length) : (cutV xs none (some 1)).length = 1 := by
  unfold cutV HT.sIx
  dsimp only
  rw [if_neg (by decide), List.length_take, List.drop_zero]
  omega
theorem ex_max : ∀ ns : List Int, ns ≠ [] → ∃ m ∈ ns, ∀ x ∈ ns, x ≤ m
  | [], h => absurd rfl h
  | [x], _ => ⟨x, List.mem_singleton.mpr rfl, fun y hy => by rw [List.mem_singleton.mp hy]; exact Int.le_refl _⟩
  | x :: y :: l, _ => by
    obtain ⟨m, hm, mx⟩ := ex_max (y :: l) (fun z => nomatch z)
    by_cases c : x ≤ m
    · exact ⟨m, List.mem_cons_of_mem _ hm, fun z hz => (List.mem_cons.mp hz).elim (fun e => e ▸ c) (mx z)⟩
    · exact ⟨x, List.mem_cons_self, fun z hz => (List.mem_cons.mp hz).elim (fun e => by rw [e]; exact Int.le_refl _) fun e => by have := mx z e; omega⟩
theorem filt_one {k : Nat} : ∀ {n : Nat}, k < n → (List.range n).filter (fun i => decide (i = k)) = [k]
  | 0, h => absurd h (Nat.not_lt_zero _)
  | n + 1, h => by
    rw [List.range_succ, List.filter_append]
    by_cases c : k = n
    · subst c
      rw [List.filter_eq_nil_iff.mpr fun i hi => by have := List.mem_range.mp hi; simp; omega, List.nil_append, List.filter_cons_of_pos (by simp)]; rfl
    · rw [filt_one (n := n) (by omega), List.filter_cons_of_neg (by simp; omega)]; rfl
theorem ways_eq {n : Nat} {S : ChSt} (h : ChN n S) : S.ways = (List.range n).filter fun i => !decide ((prE S).rw i = []) := by
  unfold ChSt.ways
  rw [h.ln]; rfl
theorem x_brk {D : Ends} {σ : Stt} {H : Hp} (k : D.bk σ H) : tBreak D σ H := k
theorem law_ok {G : En} (W : Wd G) {fd : FuncData} (F : FnP G.K "law" "law" s_law [] (He.ga G.K "law") fd) : FnG G CX0 7 (He.ga G.K "law") fd ["_law_script"] (spLaw G.K) := by
  have c1 := ok_town W
  have c2 := ok_draw W
  have c3 := ok_pick W c2
  have cd := ok_did W
  have q1 := ok_look W (ok_is_whole W)
  have q2 := ok_put W
  have mb := ok_begin W q1 q2
  have m2 := ok_come W q1 (ok_heard W mb q2) q2
  have m3 := ok_told W q1
  have m4 := ok_letters W
  have m5 := ok_ways W
  have mk := ok_init W (ok_is_whole W)
  clear mb
  refine fnq_law W (fun vs H Q E h => ?_) (fun vs H Q E h => ?_) F
  · obtain ⟨a, ns, rfl, _⟩ := h
    rfl
  obtain ⟨a, ns, rfl, hS, hl, k⟩ := h
  unfold t_law
  walk_at "st"
  refine ⟨a, ns, rfl, hS, hl, fun t c H1 n1 n2 hT1 f1 => ?_⟩
  walk_at "st"
  refine ⟨t, c, 9, rfl, hT1, by decide, by decide, fun r H2 r0 r1 hT2 f2 => ?_⟩
  walk_at "st"
  obtain ⟨n0, rfl⟩ := Int.eq_ofNat_of_zero_le r0
  rw [show (2 : Int) + (n0 : Int) = ((2 + n0 : Nat) : Int) from rfl]
  have n2 : 2 ≤ 2 + n0 := by omega
  have n10 : 2 + n0 ≤ 10 := by omega
  generalize 2 + n0 = n at n2 n10 ⊢
  walk_at "st"
  clear hS hl ns f1 f2 r1 r0 n1 hT1
  refine x_rng1g (by omega) ?_
  rw [Int.toNat_natCast]
  refine lc_rng (fun Dd i H' => ∃ ns : List Int, H' Dd = some (.lst (ns.map V.int)) ∧ ns.length = i ∧ (∀ x ∈ ns, 0 ≤ x ∧ x < 7 * (i : Int)) ∧ ns.Nodup ∧ TownAt H' t c) (fun Dd hD => ⟨[], upd_same, rfl, by simp, .nil, hT2.fr0 (.new hD)⟩) (fun Dd i Ha hD hi p => ?_) (fun l H3 hl3 p => ?_)
  · obtain ⟨ns, e, ln, b, nd, ta⟩ := p
    have nD := hT2.new hD
    refine ⟨rfl, lc_yes (x_t ?_)⟩
    walk_at "st"
    refine ⟨t, c, 7, rfl, ta, by decide, by decide, fun r Hb r0 r1 tb fb => ?_⟩
    have eb := fb.keep _ _ e (fun z => z.elim nD.1 nD.2)
    walk_at "st"
    refine ⟨_, eb, by rw [List.length_map, ln]; exact Nat.lt_of_lt_of_le hi (sl1000 (by omega)), ns ++ [7 * (i : Int) + r], by rw [List.map_append]; exact upd_same, by rw [List.length_append, List.length_singleton, ln], fun x hx => ?_, ?_, tb.fr (F := fun b => b = Dd) (.put eb trivial rfl) (fun z => nD.1 z.symm) (fun z => nD.2 z.symm)⟩
    · rcases List.mem_append.mp hx with z | z
      · have := b x z; omega
      · rw [List.mem_singleton.mp z]; omega
    · refine List.nodup_append.mpr ⟨nd, List.nodup_cons.mpr ⟨(fun z => nomatch z), List.nodup_nil⟩, fun x hx y hy => ?_⟩
      rw [List.mem_singleton.mp hy]
      have := b x hx
      omega
  obtain ⟨ns, el, ln, rg, nd, hT3⟩ := p
  replace rg : ∀ x ∈ ns, 0 ≤ x ∧ x ≤ 999 := fun x hx => by have := rg x hx; omega
  obtain ⟨x0, hx0⟩ := at_lt (xs := ns) (i := 0) (by omega)
  subst ln
  have lt0 := hT2.new hl3
  walk_at "st"
  rename_i pa hpa pb hpb
  have f4 : Fr F0 H3 (upd (upd H3 pa (.lst [.int 1])) pb (.lst [.int 1000, .int (0 - 1), .bl true, .non, .str "0", .ref pa, .int x0])) := (Fr.new hpa).then_new hpb
  have ea : upd (upd H3 pa (.lst [.int 1])) pb (.lst [.int 1000, .int (0 - 1), .bl true, .non, .str "0", .ref pa, .int x0]) pa = some (.lst [.int 1]) := upd_new upd_same hpb
  have eb : upd (upd H3 pa (.lst [.int 1])) pb (.lst [.int 1000, .int (0 - 1), .bl true, .non, .str "0", .ref pa, .int x0]) pb = some (.lst [.int 1000, .int (0 - 1), .bl true, .non, .str "0", .ref pa, .int x0]) := upd_same
  have na := hT3.new hpa
  have nb := hT3.new (b := pb) (by have := (upd_none.mp hpb).2; exact this)
  generalize upd (upd H3 pa (.lst [.int 1])) pb (.lst [.int 1000, .int (0 - 1), .bl true, .non, .str "0", .ref pa, .int x0]) = H4 at *
  have hT4 := hT3.fr0 f4
  have el4 := f4.at0 el
  refine ⟨t, c, pb, _, rfl, hT4, eb, nb.1, nb.2, by simp, by simp, fun s odd H5 hv hT5 f5 => ?_⟩
  have el5 := f5.keep _ _ el4 (fun z => z.elim lt0.1 lt0.2)
  have ho : WhB H5 0 999 odd false ∨ odd = .int x0 := by
    rcases s with _ | _ | _ | _ | _ | _ | _ | s
    · obtain rfl : odd = .int 1000 := by simpa using hv.symm
      exact .inl (.int _ (by decide))
    · obtain rfl : odd = .int (0 - 1) := by simpa using hv.symm
      exact .inl (.int _ (by decide))
    · obtain rfl : odd = .bl true := by simpa using hv.symm
      exact .inl (.bl _)
    · obtain rfl : odd = .non := by simpa using hv.symm
      exact .inl .non
    · obtain rfl : odd = .str "0" := by simpa using hv.symm
      exact .inl (.str _)
    · obtain rfl : odd = .ref pa := by simpa using hv.symm
      exact .inl (.lst (f5.keep _ _ ea (fun z => z.elim na.1 na.2)))
    · exact .inr (by simpa using hv.symm)
    · simp at hv
  clear f4 f5 ea eb hT4 hT3 el el4 hv hT2 hl3
  walk_at "st"
  refine x_sl ?_
  walk_at "st"
  refine x_nopart ?_
  refine x_part ?_
  walk_at "st"
  refine ⟨_, rfl, ?_⟩
  refine x_slL el5 fun p1 hp1 => ?_
  rw [show (-(1 : Int)) = -1 from rfl, cut_but]
  walk_at "st"
  rename_i p2 hp2
  refine ⟨_, _, _, _, rfl, rfl, upd_new upd_same hp2, upd_same, ?_, fun p3 hp3 => ?_⟩
  · rw [List.length_map, List.length_dropLast, List.length_singleton]
    exact sl1000 (by omega)
  have f6 : Fr F0 H5 (upd (upd (upd H5 p1 (.lst (ns.dropLast.map V.int))) p2 (.lst [odd])) p3 (.lst (ns.dropLast.map V.int ++ [odd]))) := ((Fr.new hp1).then_new hp2).then_new hp3
  have e3 : upd (upd (upd H5 p1 (.lst (ns.dropLast.map V.int))) p2 (.lst [odd])) p3 (.lst (ns.dropLast.map V.int ++ [odd])) p3 = some (.lst (ns.dropLast.map V.int ++ [odd])) := upd_same
  generalize upd (upd (upd H5 p1 (.lst (ns.dropLast.map V.int))) p2 (.lst [odd])) p3 (.lst (ns.dropLast.map V.int ++ [odd])) = H6 at *
  have el6 := f6.at0 el5
  walk_at "st"
  refine x_sl ?_
  walk_at "st"
  refine x_nopart ?_
  refine x_part ?_
  walk_at "st"
  refine ⟨_, rfl, ?_⟩
  refine x_slL el6 fun p4 hp4 => ?_
  have lc4 := cut_one (xs := ns.map V.int) (by rw [List.length_map]; omega)
  generalize cutV (ns.map V.int) none (some 1) = xs4 at *
  walk_at "st"
  rename_i p5 hp5
  refine x_lrgg (by decide) fun p6 hp6 => ?_
  have l11 : ((List.range (Int.toNat 11)).map fun (i : Nat) => V.int (i : Int)).length = 11 := by rw [List.length_map, List.length_range]; rfl
  generalize ((List.range (Int.toNat 11)).map fun (i : Nat) => V.int (i : Int)) = xs6 at *
  have f7 : Fr F0 H6 (upd (upd (upd H6 p4 (.lst xs4)) p5 (.lst [])) p6 (.lst xs6)) := ((Fr.new hp4).then_new hp5).then_new hp6
  have e4 : upd (upd (upd H6 p4 (.lst xs4)) p5 (.lst [])) p6 (.lst xs6) p4 = some (.lst xs4) := upd_new (upd_new upd_same hp5) hp6
  have e5 : upd (upd (upd H6 p4 (.lst xs4)) p5 (.lst [])) p6 (.lst xs6) p5 = some (.lst []) := upd_new upd_same hp6
  have e6 : upd (upd (upd H6 p4 (.lst xs4)) p5 (.lst [])) p6 (.lst xs6) p6 = some (.lst xs6) := upd_same
  generalize upd (upd (upd H6 p4 (.lst xs4)) p5 (.lst [])) p6 (.lst xs6) = H7 at *
  walk_at "st"
  refine ⟨l, ns.map V.int, rfl, .inl ⟨SqL.of (f7.at0 el6), fun p7 hp7 => ?_⟩⟩
  have f8 : Fr F0 H7 (upd H7 p7 (.tup (ns.map V.int))) := .new hp7
  have e7 : upd H7 p7 (.tup (ns.map V.int)) p7 = some (.tup (ns.map V.int)) := upd_same
  generalize upd H7 p7 (.tup (ns.map V.int)) = H8 at *
  walk_at "st"
  rename_i p8 hp8
  have f9 : Fr F0 H8 (upd H8 p8 (.lst [.ref p3, .ref p4, .ref p5, .ref p6, .ref p7, .non, .int 5, .str "ab"])) := .new hp8
  have e8 : upd H8 p8 (.lst [.ref p3, .ref p4, .ref p5, .ref p6, .ref p7, .non, .int 5, .str "ab"]) p8 = some (.lst [.ref p3, .ref p4, .ref p5, .ref p6, .ref p7, .non, .int 5, .str "ab"]) := upd_same
  generalize upd H8 p8 (.lst [.ref p3, .ref p4, .ref p5, .ref p6, .ref p7, .non, .int 5, .str "ab"]) = H9 at *
  have fA := (f7.trans f8).trans f9
  have fA' := f8.trans f9
  have bad3 : BadN H9 (.ref p3) := by
    rcases ho with wb | rfl
    · refine .odd (fA.at0 e3) ⟨?_, ?_⟩ (fun i => decide (i < ns.length - 1)) (fun i v hv => ?_) (ns.length - 1) ?_ (decide_eq_false (Nat.lt_irrefl _))
      · rw [List.length_append, List.length_map, List.length_dropLast, List.length_singleton]; omega
      · rw [List.length_append, List.length_map, List.length_dropLast, List.length_singleton]; omega
      · by_cases c : i < ns.length - 1
        · rw [List.getElem?_append_left (by rw [List.length_map, List.length_dropLast]; exact c), List.getElem?_map] at hv
          obtain ⟨y, hy, rfl⟩ := Option.map_eq_some_iff.mp hv
          rw [decide_eq_true c]
          exact .int y (decide_eq_true (rg y (List.dropLast_subset _ (List.mem_of_getElem? hy)))).symm
        · rw [List.getElem?_append_right (by rw [List.length_map, List.length_dropLast]; omega), List.length_map, List.length_dropLast] at hv
          have : i - (ns.length - 1) = 0 := by have := lt_at hv; rw [List.length_singleton] at this; omega
          rw [this] at hv
          cases hv
          rw [decide_eq_false c]
          exact (wb.fr0 f6).fr0 fA
      · rw [List.length_append, List.length_map, List.length_dropLast, List.length_singleton]; omega
    · have e3 := fA.at0 e3
      rw [show ns.dropLast.map V.int ++ [V.int x0] = (ns.dropLast ++ [x0]).map V.int by rw [List.map_append]; rfl] at e3
      refine .dup e3 ?_ (fun y hy => ?_) (fun z => ?_)
      · rw [List.length_append, List.length_dropLast, List.length_singleton]; omega
      · rcases List.mem_append.mp hy with z | z
        · exact rg y (List.dropLast_subset _ z)
        · rw [List.mem_singleton.mp z]; exact rg x0 (List.mem_of_getElem? hx0)
      · refine (List.nodup_append.mp z).2.2 x0 ?_ x0 (List.mem_singleton.mpr rfl) rfl
        rw [List.dropLast_eq_take]
        refine List.mem_of_getElem? (i := 0) ?_
        rw [List.getElem?_take, if_pos (by omega)]
        exact hx0
  have bad : ∀ (i : Nat) (x : V), ([.ref p3, .ref p4, .ref p5, .ref p6, .ref p7, .non, .int 5, .str "ab"] : List V)[i]? = some x → BadN H9 x := fun i x hx => by
    rcases i with _ | _ | _ | _ | _ | _ | _ | _ | i
    · cases hx; exact bad3
    · cases hx; exact .len (fA'.at0 e4) (by omega)
    · cases hx; exact .len (fA'.at0 e5) (by simp)
    · cases hx; exact .len (fA'.at0 e6) (by omega)
    · cases hx; exact .tup (f9.at0 e7)
    · cases hx; exact .non
    · cases hx; exact .int _
    · cases hx; exact .str _
    · simp at hx
  have elA := fA.at0 el6
  have hTA := ((hT5.fr0 f6).fr0 fA)
  generalize ([.ref p3, .ref p4, .ref p5, .ref p6, .ref p7, .non, .int 5, .str "ab"] : List V) = xs8 at *
  clear ho e3 e4 e5 e6 e7 f6 f7 f8 f9 fA fA' bad3 el6 el5 hT5 lc4 l11
  refine for_lst xs8 (fun i σ H' => ∃ v4 v6 v7 v8 v9 v10 v11, σ = [some (.ref a), some (.ref t), some (.int ns.length), some (.ref l), v4, some odd, v6, v7, v8, v9, v10, v11] ∧ Fr F0 H9 H') ?_ ?_ ?_ ?_
  · exact ⟨_, _, _, _, _, _, _, rfl, .refl _⟩
  · rintro i σ H' _ ⟨v4, v6, v7, v8, v9, v10, v11, rfl, fr⟩
    exact fr.at0 e8
  · rintro i x σ Ha hx ⟨v4, v6, v7, v8, v9, v10, v11, rfl, fr⟩
    walk_at "st"
    refine .inr (.inr (.inr (.inl ⟨x, rfl, (bad i x hx).fr0 fr, fun H' f' => ?_⟩)))
    walk_at "st"
    exact ⟨_, _, _, _, _, _, _, rfl, fr.trans f'⟩
  rintro σ Ha ⟨v4, v6, v7, v8, v9, v10, v11, rfl, fr⟩
  have elB := fr.at0 elA
  have hTB := hTA.fr0 fr
  clear bad e8 elA hTA fr xs8
  walk_at "st"
  refine x_lrgg (by decide) fun pc hpc => ?_
  walk_at "st"
  have fc : Fr F0 Ha (upd Ha pc (.lst ((List.range (Int.toNat 10)).map fun (i : Nat) => V.int (i : Int)))) := .new hpc
  have ec : upd Ha pc (.lst ((List.range (Int.toNat 10)).map fun (i : Nat) => V.int (i : Int))) pc = some (.lst (((List.range 10).map fun (i : Nat) => (i : Int)).map V.int)) := by rw [upd_same, List.map_map]; rfl
  generalize upd Ha pc (.lst ((List.range (Int.toNat 10)).map fun (i : Nat) => V.int (i : Int))) = Hb at *
  refine .inr (.inr (.inr (.inr ⟨pc, _, rfl, ec, by decide, by decide, by decide, by decide, fun Hc fc2 => ?_⟩)))
  have fd := fc.trans fc2
  walk_at "st"
  rename_i pd hpd
  have fe : Fr F0 Hc (upd Hc pd (.lst [.int 999, .int 0])) := .new hpd
  have ed : upd Hc pd (.lst [.int 999, .int 0]) pd = some (.lst (([999, 0] : List Int).map V.int)) := upd_same
  generalize upd Hc pd (.lst [.int 999, .int 0]) = Hd at *
  refine .inr (.inr (.inr (.inr ⟨pd, [999, 0], rfl, ed, by decide, by decide, by decide, by decide, fun He fe2 => ?_⟩)))
  have elE := ((fd.trans fe).trans fe2).at0 elB
  have hTE := hTB.fr0 ((fd.trans fe).trans fe2)
  clear elB hTB fd fe fe2 ed ec fc fc2
  walk_at "st"
  intro x dx hx hdx dxx
  have lx : l ≠ x := ne_of_none elE hx
  refine ⟨x, l, dx, ns, rfl, upd_same, upd_at (upd_new elE hdx) lx, by omega, by omega, rg, nd, fun L H8 ex o1 a1 nw1 f8 => ⟨rfl, ?_⟩⟩
  subst ex
  have f78 : Fr F0 He (upd (upd He dx (.own L.root)) L.root (.ins (cl_Choice G.K) dx [])) := (Fr.new hdx).then_new (upd_none.mpr ⟨dxx.symm, hx⟩)
  have inH : ∀ {b o}, He b = some o → ¬ ChM L b := fun hb m1 => by
    rcases nw1 _ m1 with z | z
    · rw [z, hx] at hb; cases hb
    · rw [f78.at0 hb] at z; cases z
  have hT8 : TownAt H8 t c := (hTE.fr0 f78).fr f8 (ne_of_none hTE.ex.choose_spec.choose_spec.1 hx) (ne_of_none hTE.ex.choose_spec.choose_spec.2.1 hx)
  have e8 : H8 l = some (.lst (ns.map V.int)) := f8.keep _ _ (f78.at0 elE) lx
  have w8 : CW H8 t c L (chNew ns) := ⟨a1, hT8, inH hTE.ex.choose_spec.choose_spec.1, inH hTE.ex.choose_spec.choose_spec.2.1⟩
  have dl : ¬ ChM L l := inH elE
  have N0 : ChN ns.length (chNew ns) := prE_new
  walk_at "st"
  refine ⟨t, c, ns.length, rfl, hT8, by omega, by omega, fun r HA r0 r1 tA fA => ?_⟩
  obtain ⟨pl, rfl⟩ := Int.eq_ofNat_of_zero_le r0
  have hpl : pl < ns.length := by omega
  have wA := w8.town tA fA
  have eA := fA.keep _ _ e8 (fun z => z.elim lt0.1 lt0.2)
  walk_at "st"
  rename_i pe hpe pf hpf
  have fB : Fr F0 HA (upd (upd HA pe (.lst [.int 0])) pf (.lst [.int ns.length, .int (0 - 1), .bl true, .non, .str "0", .ref pe])) := (Fr.new hpe).then_new hpf
  have ee : upd (upd HA pe (.lst [.int 0])) pf (.lst [.int ns.length, .int (0 - 1), .bl true, .non, .str "0", .ref pe]) pe = some (.lst [.int 0]) := upd_new upd_same hpf
  have ef : upd (upd HA pe (.lst [.int 0])) pf (.lst [.int ns.length, .int (0 - 1), .bl true, .non, .str "0", .ref pe]) pf = some (.lst [.int ns.length, .int (0 - 1), .bl true, .non, .str "0", .ref pe]) := upd_same
  generalize upd (upd HA pe (.lst [.int 0])) pf (.lst [.int ns.length, .int (0 - 1), .bl true, .non, .str "0", .ref pe]) = HB at *
  have oddB : ∀ (i : Nat) (x : V), ([.int ns.length, .int (0 - 1), .bl true, .non, .str "0", .ref pe] : List V)[i]? = some x → WhB HB 0 (((chNew ns).names.length : Int) - 1) x false := fun i x hx => by
    have en : (chNew ns).names.length = ns.length := rfl
    rw [en]
    rcases i with _ | _ | _ | _ | _ | _ | i
    · cases hx; exact .int _ (decide_eq_false (by omega)).symm
    · cases hx; exact .int _ (decide_eq_false (by omega)).symm
    · cases hx; exact .bl _
    · cases hx; exact .non
    · cases hx; exact .str _
    · cases hx; exact .lst ee
    · simp at hx
  have wB := wA.fr0 fB
  have eB := fB.at0 eA
  generalize ([.int ns.length, .int (0 - 1), .bl true, .non, .str "0", .ref pe] : List V) = xs6 at *
  refine for_lst xs6 (fun i σ H' => ∃ v6, σ = [some (.ref a), some (.ref t), some (.int ns.length), some (.ref l), v4, some odd, v6, some (.ref L.root), some (.int pl), v9, v10, v11] ∧ Fr F0 HB H') ?_ ?_ ?_ ?_
  · exact ⟨_, rfl, .refl _⟩
  · rintro i σ H' _ ⟨v6, rfl, fr⟩
    exact fr.at0 ef
  · rintro i x σ Ha hx ⟨v6, rfl, fr⟩
    walk_at "st"
    refine x_rng1g (by decide) ?_
    refine lc_rngP (n := 3) (fun _ => true) (fun _ => .str "hand") (by decide) (fun j Hj Kv Kn hj fj k1 k2 => ?_) (fun D Hk hD fk eD => ?_)
    · refine ⟨rfl, lc_yes (x_t ?_)⟩
      walk_at "st"
      exact .inl ⟨L, chNew ns, x, j, rfl, hj, o1, ((wB.fr0 fr).fr0 fj).a, ((oddB i x hx).fr0 fr).fr0 fj, fun H' f' => k1 rfl H' f'⟩
    walk_at "st"
    rename_i pg hpg
    refine x_rep1 (n := 3) upd_same (by decide) fun ph hph => ?_
    have fg : Fr F0 Hk (upd (upd Hk pg (.lst [.str "hand"])) ph (.lst (List.replicate 3 (.str "hand")))) := (Fr.new hpg).then_new hph
    refine x_neL encHand (lst_hand (n := 3) (fg.at0 eD)) (lst_hand (n := 3) upd_same) ?_
    rw [decide_eq_true rfl]
    walk_at "st"
    exact ⟨_, rfl, (fr.trans fk).trans fg⟩
  rintro σ HC ⟨v6, rfl, fC⟩
  have wC := wB.fr0 fC
  have eC := fC.at0 eB
  clear oddB ee ef fB wB eB wA eA fC w8 hT8 e8 a1 f8
  obtain ⟨best, bm, bx⟩ := ex_max ns (fun z => by rw [z] at n2; exact absurd n2 (by decide))
  obtain ⟨top, et⟩ := List.getElem?_of_mem bm
  have ht : top < ns.length := lt_at et
  obtain ⟨eb0, ph0⟩ := php_idle ht (getD_at et) (fun i hi => by
    obtain ⟨y, hy⟩ := at_lt hi
    rw [getD_at hy]
    exact bx y (List.mem_of_getElem? hy)) nd
  have l0 : fLen ns.length (prE (chNew ns)) = 0 := rsum_zero fun i hi => by rw [ph0.2.1 i hi]; rfl
  have sh0 := short_of N0 (by omega)
  have s00 : (prE (chNew ns)).sent = 0 := rfl
  walk_at "st"
  refine .inr (.inr (.inl ⟨L, chNew ns, pl, rfl, o1, wC.a, hpl, by rw [rows_at N0 hpl, ph0.2.1 pl hpl], fun HD fD => ?_⟩))
  have wD := wC.fr0 fD
  have eD := fD.at0 eC
  walk_at "st"
  refine .inr (.inl ⟨L, chNew ns, pl, _, _, rfl, o1, wD.a, hpl, sh0, act_at N0 hpl, known_at N0 hpl, fun ea _ HE h' f' => ?_, fun no => absurd ⟨ph0.1 pl hpl, ph0.2.2 pl hpl⟩ no⟩)
  have wE := wD.step h' f'
  have eE := f'.keep _ _ eD dl
  obtain ⟨pb, nb⟩ := prE_begun N0 hpl
  obtain ⟨p1', q1', q2'⟩ := ph_begun eb0 ph0 hpl ea
  have eb1 := eb0.begun hpl ea
  have lb := len_begun (S := prE (chNew ns)) hpl
  have sb : ((prE (chNew ns)).begun pl).sent = 1 := rfl
  rw [← pb] at q1' eb1 lb sb
  have rw1 : ∀ i, i < ns.length → (prE ((chNew ns).begun pl)).rw i = if i = pl then [(false, (prE (chNew ns)).nm pl)] else [] := fun i hi => by
    rw [pb, begun_rw, ph0.2.1 pl hpl, ph0.2.1 i hi]; rfl
  have ac1 : (prE ((chNew ns).begun pl)).ac pl = true := by rw [pb, begun_ac, if_pos rfl]
  have sh1 := short_of nb (by omega)
  have sn1 : ((chNew ns).begun pl).sent = 1 := sb
  generalize (chNew ns).begun pl = S1 at *
  walk_at "st"
  refine .inr (.inl ⟨L, S1, pl, _, _, rfl, o1, wE.a, by rw [nb.ln]; exact hpl, sh1, act_at nb hpl, known_at nb hpl, (fun ea _ => by rw [ac1] at ea; cases ea), fun no HF fF => ?_⟩)
  have wF := wE.fr0 fF
  have eF := fF.at0 eE
  have oo := o1
  obtain ⟨dx1, e1⟩ := oo
  have rtF := wF.a.rt
  simp only [e1] at rtF
  walk_at "st"
  refine x_mod (by omega) ?_
  rw [show ((pl : Int) + 1) % (ns.length : Int) = (((pl + 1) % ns.length : Nat) : Int) from rfl]
  have hot := nx_lt hpl
  have otn : (pl + 1) % ns.length ≠ pl := fun z => by
    have := nx_eq hpl
    rw [z] at this
    split at this <;> omega
  generalize (pl + 1) % ns.length = ot at *
  walk_at "st"
  refine ⟨L, S1, rfl, o1, wF.a, ?_⟩
  rw [sn1]
  walk_at "st"
  refine ⟨L, S1, rfl, o1, wF.a, by rw [nb.ln]; omega, fun D HG hD fG eD => ?_⟩
  have eG := fG.at0 eF
  have wG := wF.fr0 fG
  walk_at "st"
  rename_i pk hpk
  have fk : Fr F0 HG (upd HG pk (.lst [.int pl])) := .new hpk
  have w1 : S1.ways = [pl] := by
    rw [ways_eq nb, ← filt_one hpl]
    refine List.filter_congr fun i hi => ?_
    rw [rw1 i (List.mem_range.mp hi)]
    by_cases c : i = pl
    · rw [if_pos c, decide_eq_true c]; rfl
    · rw [if_neg c, decide_eq_false c]; rfl
  rw [w1] at eD
  refine x_neL encInt (xs := [(pl : Int)]) (ys := [(pl : Int)]) (lst_ints (SqL.of (fk.at0 eD))) (lst_ints (ns := [(pl : Int)]) (SqL.of upd_same)) ?_
  rw [decide_eq_true rfl]
  have eH := fk.at0 eG
  have wH := wG.fr0 fk
  generalize upd HG pk (.lst [.int pl]) = HH at *
  walk_at "st"
  refine .inr (.inr (.inl ⟨L, S1, ot, rfl, o1, wH.a, by rw [nb.ln]; exact hot, by rw [rows_at nb hot, rw1 ot hot, if_neg otn], fun HI fI => ?_⟩))
  have eI := fI.at0 eH
  have wI := wH.fr0 fI
  clear eH wH eG wG eF wF fk fG fF rtF fI eD eE wE wD fD wC f' h'
  walk_at "st"
  refine x_rng1g (by decide) ?_
  have ln1 : fLen ns.length (prE S1) = (prE S1).sent := by omega
  clear rw1 ac1 sh1 w1 otn hot lb sb l0 sh0 s00 ph0 pb eb0 sn1
  refine for_rng (fun i σ H' => ∃ v11 S p, σ = [some (.ref a), some (.ref t), some (.int ns.length), some (.ref l), v4, some odd, v6, some (.ref L.root), some (.int pl), v9, some (.int ot), v11] ∧ CW H' t c L S ∧ H' l = some (.lst (ns.map V.int)) ∧ ChN ns.length S ∧ EB ns.length top best (prE S) ∧ EPh ns.length top best (prE S) p ∧ p ≠ .idle ∧ (i : Int) + fLen ns.length (prE S) = (prE S).sent) ?_ ?_ ?_
  · exact ⟨_, S1, p1', rfl, wI, eI, nb, eb1, q1', q2', by omega⟩
  · clear ln1 eb1 q1' q2' nb wI eI
    rintro i σ HA hi ⟨v11, S, p, rfl, wA, eA, NN, eb, ph, np, ln⟩
    have hi : i < 200 := hi
    have rtA := wA.a.rt
    simp only [e1] at rtA
    have pg := fPhi_ge (S := prE S) ht
    have bn := eb.bnd
    have nn : (ns.length : Int) * (ns.length + 1) ≤ 10 * 11 := Int.mul_le_mul (by omega) (by omega) (by omega) (by omega)
    have sh := short_of NN (by omega)
    walk_at "st"
    refine ⟨L, S, rfl, o1, wA.a, by rw [NN.ln]; omega, fun D HB hD fB eD => ?_⟩
    walk_at "st"
    rename_i z hz
    have fz : Fr F0 HB (upd HB z (.lst [])) := .new hz
    have eD' : HB D = some (.lst ((S.ways.map fun (i : Nat) => (i : Int)).map V.int)) := by rw [eD, List.map_map]; rfl
    refine x_eqL encInt (lst_ints (SqL.of (fz.at0 eD'))) (lst_nil encInt upd_same) ?_
    have wB := wA.fr0 (fB.trans fz)
    have eB := (fB.trans fz).at0 eA
    have rtB := wB.a.rt
    simp only [e1] at rtB
    clear eD eD'
    generalize upd HB z (.lst []) = HC at *
    by_cases wz : S.ways = []
    · rw [decide_eq_true (show (S.ways.map fun (i : Nat) => (i : Int)) = [] by rw [wz]; rfl)]
      have pd := ph.over ht (ways_nil NN wz) np
      obtain ⟨d1, d2, d3, _⟩ := pd
      walk_at "st"
      refine x_brk ?_
      walk_at "st"
      refine x_rng1g (by omega) ?_
      rw [Int.toNat_natCast]
      refine lc_rngP (fun _ => true) (fun _ => .int best) (by omega) (fun j Hj Kv Kn hj fj k1 k2 => ?_) (fun D1 HD hD1 fD eD => ?_)
      · have wj := wB.fr0 fj
        have rtj := wj.a.rt
        simp only [e1] at rtj
        refine ⟨rfl, lc_yes (x_t ?_)⟩
        walk_at "st"
        refine ⟨L, S, j, _, rfl, o1, wj.a, known_at NN hj, ?_⟩
        rw [d3 j hj]
        exact k1 rfl _ (.refl _)
      have eD' : HD D1 = some (.lst ((List.replicate ns.length best).map V.int)) := by
        rw [eD, filt_all, List.map_replicate, map_rep0]
      have wD := wB.fr0 fD
      have eE := fD.at0 eB
      walk_at "st"
      refine ⟨l, ns, rfl, SqL.of eE, by omega, fun best' bm' bx' => ?_⟩
      obtain rfl : best' = best := by
        have := bx best' bm'
        have := bx' best bm
        omega
      walk_at "st"
      rename_i pm hpm
      refine x_rep1 upd_same (by omega) fun pn hpn => ?_
      have fm : Fr F0 HD (upd (upd HD pm (.lst [.int best'])) pn (.lst (List.replicate ns.length (.int best')))) := (Fr.new hpm).then_new hpn
      refine x_neL encInt (lst_ints (SqL.of (fm.at0 eD'))) (lst_ints (ns := List.replicate ns.length best') (SqL.of (by rw [List.map_replicate]; exact upd_same))) ?_
      rw [decide_eq_true rfl]
      have wE := wD.fr0 fm
      generalize upd (upd HD pm (.lst [.int best'])) pn (.lst (List.replicate ns.length (.int best'))) = HE at *
      walk_at "st"
      refine x_rng1g (by omega) ?_
      rw [Int.toNat_natCast]
      refine lc_rngP (fun _ => true) (fun _ => .str "now") (by omega) (fun j Hj Kv Kn hj fj k1 k2 => ?_) (fun D3 HF hD3 fF eF => ?_)
      · have wj := wE.fr0 fj
        refine ⟨rfl, lc_yes (x_t ?_)⟩
        walk_at "st"
        exact .inr (.inl ⟨L, S, j, _, _, rfl, o1, wj.a, by rw [NN.ln]; exact hj, sh, act_at NN hj, known_at NN hj, (fun ea => by rw [d2 j hj] at ea; cases ea), fun _ H' f' => k1 rfl H' f'⟩)
      have eF' : HF D3 = some (.lst (List.replicate ns.length (.str "now"))) := by
        rw [eF, filt_all, map_rep0]
      have wF := wE.fr0 fF
      walk_at "st"
      rename_i pq hpq
      refine x_rep1 upd_same (by omega) fun pr hpr => ?_
      have fq : Fr F0 HF (upd (upd HF pq (.lst [.str "now"])) pr (.lst (List.replicate ns.length (.str "now")))) := (Fr.new hpq).then_new hpr
      refine x_eqL encNow (lst_now (fq.at0 eF')) (lst_now (n := ns.length) upd_same) ?_
      rw [decide_eq_true rfl]
      have wG := wF.fr0 fq
      have rtG := wG.a.rt
      simp only [e1] at rtG
      generalize upd (upd HF pq (.lst [.str "now"])) pr (.lst (List.replicate ns.length (.str "now"))) = HG at *
      walk_at "st"
      refine ⟨L, S, rfl, o1, wG.a, by rw [NN.ln]; omega, fun D5 HH hD5 fH eH => ?_⟩
      walk_at "st"
      rename_i pz hpz
      rw [wz] at eH
      refine x_eqL encInt (xs := []) (ys := []) (lst_nil encInt (upd_new eH hpz)) (lst_nil encInt upd_same) ?_
      exact k _
    · rw [decide_eq_false (show ¬ (S.ways.map fun (i : Nat) => (i : Int)) = [] from fun z => wz (List.map_eq_nil_iff.mp z))]
      walk_at "st"
      refine ⟨L, S, rfl, o1, wB.a, by rw [NN.ln]; omega, fun D2 HD hD2 fD2 eD2 => ?_⟩
      have wD := wB.fr0 fD2
      have eD := fD2.at0 eB
      have tD2 := wB.tw.new hD2
      walk_at "st"
      refine ⟨t, c, D2, _, rfl, wD.tw, eD2, tD2.1, tD2.2, by simpa using wz, ?_, fun s v Hh hv th fh => ?_⟩
      · rw [List.length_map]
        refine Nat.le_trans (List.length_filter_le _ _) ?_
        rw [List.length_range, NN.ln]; omega
      rw [List.getElem?_map] at hv
      obtain ⟨j, hj, rfl⟩ := Option.map_eq_some_iff.mp hv
      obtain ⟨j1, j2⟩ := List.mem_filter.mp (List.mem_of_getElem? hj)
      have j1 : j < ns.length := by rw [← NN.ln]; exact List.mem_range.mp j1
      have wH := wD.town th fh
      have eH := fh.keep _ _ eD (fun z => z.elim lt0.1 lt0.2)
      have rtH := wH.a.rt
      simp only [e1] at rtH
      cases er : (prE S).rw j with
      | nil =>
        have er : S.rows.getD j [] = [] := er
        rw [er] at j2; simp at j2
      | cons w r =>
      obtain ⟨pc, nc⟩ := prE_came NN j1 w r
      obtain ⟨p', eC', q1, q2⟩ := ph_come eb ph n2 j1 er
      have lc' := len_come j1 (nx_lt j1) er
      walk_at "st"
      refine ⟨L, S, j, w, r, rfl, o1, wH.a, by rw [NN.ln]; exact j1, sh, by rw [rows_at NN j1, er], fun _ ha => ?_, fun H' h' f' => ?_⟩
      · rw [NN.ln] at ha ⊢
        rw [act_at NN (nx_lt j1)] at ha
        rw [known_at NN (nx_lt j1), ph.free _ (nx_lt j1) (Option.some.inj ha)]
      walk_at "st"
      rw [← pc] at eC' q1 lc'
      exact ⟨_, S.came j w r, p', rfl, wH.step h' f', f'.keep _ _ eH dl, nc, eC', q1, q2, by omega⟩
  · rintro σ HZ ⟨v11, S, p, rfl, wZ, eZ, NN, eb, ph, np, ln⟩
    exfalso
    have pg := fPhi_ge (S := prE S) ht
    have bn := eb.bnd
    have nn : (ns.length : Int) * (ns.length + 1) ≤ 10 * 11 := Int.mul_le_mul (by omega) (by omega) (by omega) (by omega)
    have l0 : 0 ≤ fLen ns.length (prE S) := rsum_nonneg fun _ _ => Int.natCast_nonneg _
    have ln : ((200 : Nat) : Int) + fLen ns.length (prE S) = (prE S).sent := ln
    omega
end

/-! ### the end -/
theorem facts_law {P : Program} {w : World} {K : PySem.W.Frag} {h : Heap} {mg : Str → Option Value} {f : Addr} (X : K.In h) (N : h.Ns mainGlobals mg) (hfa : mg ("law" : Str) = some (.ref f)) (c : He.SaysD fa fn K) (ce : exK K = true) :
    ∃ fd : FuncData, (∀ (s : Shared) (v : Value), BindsTo s fd ⟨[v], []⟩ [("_law_script", v)]) ∧ ∀ base : Heap, K.In base → base.Ns mainGlobals mg → FnOk P w K mg base CX0 7 f fd ["_law_script"] (spLaw K) := by
  have W0 : Wd ⟨P, w, K, mg, h⟩ := wd_of X N c ce
  obtain ⟨fd, F⟩ := W0.f_law
  have e := hfa.symm.trans W0.g_law
  cases e
  have b := FunD.bindsA (ps := ["_law_script"]) F fun _ _ _ _ _ _ us hl => match us, hl with | [_], _ => rfl
  exact ⟨fd, fun s v => b s [v] rfl, fun base Xb Nb => law_ok (G := ⟨P, w, K, mg, base⟩) (wd_of Xb Nb c ce) F⟩
end Q
open PySem PySem.W PySem.Calls PyProof.Rows
theorem PySem.Challenge.cw_quietnet_k28_choice_refused_holds : PySem.Challenge.rw_quietnet_k28_choice_refused.Holds := by
  w_on; o_law
  refine HandSHeadRun.head_any (r := Q.R) (q := view Q.R.prog [22]) (H := Q.hk) (ob := Q.ob) (M := 30000) (loose := Q.loose) (d := HandSHeadRun.topDef Q.R.prog 22) (kwd := []) Q.ob_eq
    (by kernel_rfl) (fun s => by kernel_rfl) Q.run (by kernel_rfl) (by kernel_rfl) (by kernel_rfl) (by rfl) (by first | assumption | decide +kernel) (by decide +kernel) ⟨rfl, rfl, rfl, rfl, rfl, by decide +kernel⟩ ?hw ?hc
  case hw => w_witness2
  case hc =>
    refine L2.walk_ofE (l := PySem.Challenge.rw_quietnet_k28_choice_refused) (n := 63) (k := 7) (x := "_law_script") (CX := L2.CX0) rfl (by decide) (by kernel_rfl) ⟨rfl, by decide, by decide⟩ ?F (fun _ _ _ _ z => z)
    intro w mg fa h Y N hmg0
    obtain ⟨K, KX, c, ce⟩ := Y
    have hmg : mg ("law" : PySem.Str) = some (.ref fa) := by
      have e : (HandSHeadRun.topDef Q.R.prog 22).name = ("law" : PySem.Str) := by kernel_rfl
      rw [← e]
      exact hmg0
    obtain ⟨fd, hb, hF⟩ := Q.facts_law (P := PySem.Challenge.rw_quietnet_k28_choice_refused.prog) (w := w) KX N hmg c ce
    exact ⟨K, fd, Q.spLaw K, KX, hb, fun H a ns hl _ hS => ⟨a, ns, rfl, hS, hl, fun _ => rfl⟩, hF⟩
