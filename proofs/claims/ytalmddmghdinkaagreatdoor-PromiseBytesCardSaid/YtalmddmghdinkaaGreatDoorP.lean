/-
  A part of the proof of PromiseBytes: lemmas, in short letters, printed by a program out of the longer texts; conditions: those that each lemma names.
-/
import Derived.Test.YtalmddmghdinkaaGreatDoorO
set_option linter.all false
set_option linter.deprecated false
noncomputable section
namespace Go.Vm.X
open Go Go.Vm Go.Proofs Go.Proofs.bt
def cE (fn:Func):Fn:=fun c n l s=>sJ c types n fn l s
def dE (fn:Func):Fn:=fun c _ l s=>MR c types 4000 fn l s
theorem cK {O:aL} {f:Nat} {fn:Func} (h: ∀f,O f=none) (hf:funcs.get f=some fn):cc O funcs types f (cE fn):= .den (h f) hf fun _ _ _ _ _ e=>e
theorem dK {O:aL} {f:Nat} {fn:Func} (h: ∀f,O f=none) (hf:funcs.get f=some fn):cc O funcs types f (dE fn):= .dn (h f) hf 4000
def Fu:Tr Fn:=
 (t2 (t2 (t2 (t2 (t2 (t2 (t3 (t2 (t1 (cE Tryz.f255)) tl) (bR Tk) (t1 (cR GC))) (t3 (t1 (bR Gv)) (cE Tryz.f95) tl)) (t3 (t2 (t1 (pR Oe)) (t3 tl (cE Tryz.f207) (t1 (cE Tryz.f463))))
 (bR Tg) (t3 (t3 (t1 (dE Tryz.f303)) (cR Oj) tl) (cR Gd) (t1 (cE Tryz.f239))))) (t3 (t3 (t2 (t1 (bR N7)) (t3 tl (bR Oz) (t1 (cE Tryz.f455)))) (cR Td) (t2 tl (t1 (cE Tryz.f231))))
 (bR S8) (t3 (t3 (t3 (t1 (cE Tryz.f279)) (cE Tryz.f151) tl) (bR F87) tl) (cE Tryz.f55) (t3 (t1 (bR Ou)) (bR Gm) tl)))) (t3 (t3 (t2 (t3 tl (cR Tn) (t3 tl (bR GH) (t1 (cE
 Tryz.f451)))) (t3 (t1 (bR Gz)) (bR MG) (t1 (cE Tryz.f227)))) (cE Tryz.f19) (t3 (t3 (t3 (t1 (cE Tryz.f275)) (bR Oi) tl) (bR Tu) (t1 (dE Tryz.f211))) (bR F51) (t3 (t1 (cR
 On)) (cR Gh) tl))) (cE Tryz.f11) (t2 (t3 (t2 (t1 (pR Oa)) (t1 (bR OC))) (cE Tryz.f43) (t3 tl (bR Ga) (t1 (cE Tryz.f235)))) (t3 tl (cR Tj) (t2 (t1 (cE Tryz.f187)) tl)))))
 (t2 (t3 (t3 (t3 (t2 (t1 (cR Gq)) (t3 tl (cR GF) (t1 (cE Tryz.f449)))) (bR Tc) (t3 (t3 (t1 (cE Tryz.f289)) (cR Gx) tl) (pR F97) tl)) (cR S7) (t3 (t2 (t3 (t1 (cE Tryz.f273))
 (bR Og) tl) (t1 (cE Tryz.f209))) (cE Tryz.f49) (t3 (t3 (t1 (cE Tryz.f305)) (cR Ol) tl) (bR Gf) tl))) (bR F9) (t2 (t3 (t2 (t1 (bR Gr)) (t3 tl (bR OA) (t1 (cE Tryz.f457))))
 (cR Te) (t2 tl (t1 (cE Tryz.f233)))) (t3 (t3 (t1 (cE Tryz.f153)) (MM F89) (t1 (bR GK))) (cR Ti) (t2 (t1 (bR Ov)) (t2 (t1 (cE Tryz.f377)) tl))))) (t2 (t3 (t2 (t3 (t3 tl (bR
 N5) (t1 (cE Tryz.f389))) (cR Tp) (t3 tl (cR Ox) (t1 (cE Tryz.f453)))) (t1 (cR F5))) (cE Tryz.f21) (t3 (t2 (t3 (t1 (cE Tryz.f277)) (cE Tryz.f149) tl) (t2 tl (t1 (cE Tryz.f469))))
 (cE Tryz.f53) (t3 (t1 (bR Oq)) (bR Gj) tl))) (t3 (t3 (t2 (t3 tl (bR Oc) (t1 (dE Tryz.f397))) (t1 (cE Tryz.f205))) (cR Tf) (t3 (t1 (cR GA)) (cR Gc) (t1 (cE Tryz.f237))))
 (pR Tb) (t2 (t3 (t1 (cR Gt)) (bR F93) (t1 (cE Tryz.f221))) (t2 (t1 (cE Tryz.f189)) (t1 (cE Tryz.f253)))))))) (t2 (t2 (t2 (t3 (t2 (t3 (t3 (t1 (cE Tryz.f256)) (bR Gp) tl) (cR
 Tl) (t1 (bR GD))) (t3 (t1 (cR Gw)) (cE Tryz.f96) tl)) (bR S6) (t3 (t2 (t1 (bR Of)) (t1 (dE Tryz.f208))) (bR Th) (t3 (t3 (t1 (dE Tryz.f304)) (bR Ok) tl) (bR Ge) tl)))
 (t2 (t2 (t2 (t1 (pR N8)) (t3 tl (bR GJ) (t1 (cE Tryz.f456)))) tl) (t2 (t3 (t3 (t1 (cE Tryz.f280)) (dE Tryz.f152) tl) (bR F88) (t1 (cE Tryz.f216))) (t3 (t3 (t1 (cE Tryz.f312))
 (cE Tryz.f184) tl) (cR Gn) tl)))) (t2 (t2 (t2 (t3 (t1 (bR N4)) (bR To) (t3 tl (bR GI) (t1 (cE Tryz.f452)))) (t2 tl (t1 (cE Tryz.f228)))) (t2 (t2 (t3 (t1 (cE Tryz.f276)) (cE
 Tryz.f148) tl) (t2 (t1 (cE Tryz.f340)) tl)) (t3 (t1 (bR Oo)) (bR Gi) tl))) (t3 (t2 (t2 (t3 (t1 (cE Tryz.f268)) (Ih Ob) tl) (t1 (cE Tryz.f204))) (t3 tl (bR Gb) (t1 (cE Tryz.f236))))
 (bR Ta) (t2 (t3 tl (cE Tryz.f92) (t1 (cE Tryz.f220))) (t2 (t1 (cE Tryz.f188)) (t1 (cE Tryz.f252))))))) (t2 (t2 (t2 (t2 (t3 tl (bR Tm) (t3 tl (bR GG) (t1 (cE Tryz.f450)))) (t2
 (t1 (bR Gy)) tl)) (t3 (t3 (t3 (t1 (dE Tryz.f274)) (pR Oh) tl) (bR Tt) (t1 (cE Tryz.f210))) (bR F50) (t3 (t1 (bR Om)) (cR Gg) tl))) (t3 (t3 (t2 (t3 (t1 (cE Tryz.f266))
 (bR N9) tl) (t1 (ML OB))) (cE Tryz.f42) (t1 (cR F6))) (bR S9) (t2 (t3 (t1 (cR Gs)) (pR F90) tl) (t2 (t3 (t1 (cE Tryz.f314)) (cE Tryz.f186) tl) (t1 (cE Tryz.f250))))))
 (t3 (t2 (t2 (t3 (t1 (bR N6)) (bR Tq) (t3 tl (bR Oy) (t1 (cE Tryz.f454)))) (t2 (t2 (t1 (dE Tryz.f294)) tl) (t1 (cE Tryz.f230)))) (t3 (t3 (t3 (t1 (cE Tryz.f278)) (cE Tryz.f150)
 tl) (cR Tv) tl) (dE Tryz.f54) (t3 (t1 (cR Ot)) (bR Gk) tl))) (cE Tryz.f14) (t2 (t3 (t3 (t1 (bR Od)) (bR Ts) (t3 (t1 (cE Tryz.f334)) (cE Tryz.f206) (t1 (cE Tryz.f462))))
 (cE Tryz.f46) (t2 (t1 (cE Tryz.f174)) (t1 (cE Tryz.f238)))) (t2 (t3 (t1 (cR Gu)) (cE Tryz.f94) (t1 (cE Tryz.f222))) (t2 (t1 (bR GB)) (t1 (cE Tryz.f254)))))))))
theorem Mp {O:aL} (h: ∀f,O f=none):lB O funcs types Fu fun j=>j:=
 (k2 (k2 (k2 (k2 (k2 (k2 (k3 (k2 (k1 (cK h (aG Tryz.func255 (by kernel_rfl)))) (.leaf _)) (E63 (h _)) (k1 (NV (h _)))) (k3 (k1 (NO (h _))) (cK h (aG Tryz.func95 (by kernel_rfl)))
 (.leaf _))) (k3 (k2 (k1 (U4 (h _))) (k3 (.leaf _) (cK h (aG Tryz.func207 (by kernel_rfl))) (k1 (cK h (aG Tryz.func463 (by kernel_rfl)))))) (E47 (h _)) (k3 (k3 (k1 (dK h (aG
 Tryz.func303 (by kernel_rfl)))) (Vb (h _)) (.leaf _)) (Nx (h _)) (k1 (cK h (aG Tryz.func239 (by kernel_rfl))))))) (k3 (k3 (k2 (k1 (UX (h _))) (k3 (.leaf _) (Vo (h _)) (k1
 (cK h (aG Tryz.func455 (by kernel_rfl)))))) (E39 (h _)) (k2 (.leaf _) (k1 (cK h (aG Tryz.func231 (by kernel_rfl)))))) (E23 (h _)) (k3 (k3 (k3 (k1 (cK h (aG Tryz.func279 (by kernel_rfl))))
 (cK h (aG Tryz.func151 (by kernel_rfl))) (.leaf _)) (E87 (h _)) (.leaf _)) (cK h (aG Tryz.func55 (by kernel_rfl))) (k3 (k1 (Vj (h _))) (NG (h _)) (.leaf _))))) (k3 (k3 (k2 (k3
 (.leaf _) (E67 (h _)) (k3 (.leaf _) (NZ (h _)) (k1 (cK h (aG Tryz.func451 (by kernel_rfl)))))) (k3 (k1 (NS (h _))) (Vv (h _)) (k1 (cK h (aG Tryz.func227 (by kernel_rfl))))))
 (cK h (aG Tryz.func19 (by kernel_rfl))) (k3 (k3 (k3 (k1 (cK h (aG Tryz.func275 (by kernel_rfl)))) (U8 (h _)) (.leaf _)) (E83 (h _)) (k1 (dK h (aG Tryz.func211 (by kernel_rfl)))))
 (E51 (h _)) (k3 (k1 (Vf (h _))) (NB (h _)) (.leaf _)))) (cK h (aG Tryz.func11 (by kernel_rfl))) (k2 (k3 (k2 (k1 (U0 (h _))) (k1 (Vr (h _)))) (cK h (aG Tryz.func43 (by kernel_rfl)))
 (k3 (.leaf _) (Nu (h _)) (k1 (cK h (aG Tryz.func235 (by kernel_rfl)))))) (k3 (.leaf _) (E59 (h _)) (k2 (k1 (cK h (aG Tryz.func187 (by kernel_rfl)))) (.leaf _)))))) (k2 (k3 (k3
 (k3 (k2 (k1 (NJ (h _))) (k3 (.leaf _) (NX (h _)) (k1 (cK h (aG Tryz.func449 (by kernel_rfl)))))) (E33 (h _)) (k3 (k3 (k1 (cK h (aG Tryz.func289 (by kernel_rfl)))) (NQ (h _))
 (.leaf _)) (E97 (h _)) (.leaf _))) (E17 (h _)) (k3 (k2 (k3 (k1 (cK h (aG Tryz.func273 (by kernel_rfl)))) (U6 (h _)) (.leaf _)) (k1 (cK h (aG Tryz.func209 (by kernel_rfl))))) (cK
 h (aG Tryz.func49 (by kernel_rfl))) (k3 (k3 (k1 (cK h (aG Tryz.func305 (by kernel_rfl)))) (Vd (h _)) (.leaf _)) (Nz (h _)) (.leaf _)))) (E9 (h _)) (k2 (k3 (k2 (k1 (NK (h _)))
 (k3 (.leaf _) (Vp (h _)) (k1 (cK h (aG Tryz.func457 (by kernel_rfl)))))) (E41 (h _)) (k2 (.leaf _) (k1 (cK h (aG Tryz.func233 (by kernel_rfl)))))) (k3 (k3 (k1 (cK h (aG Tryz.func153
 (by kernel_rfl)))) (E89 (h _)) (k1 (N2 (h _)))) (E57 (h _)) (k2 (k1 (Vk (h _))) (k2 (k1 (cK h (aG Tryz.func377 (by kernel_rfl)))) (.leaf _)))))) (k2 (k3 (k2 (k3 (k3 (.leaf _)
 (UU (h _)) (k1 (cK h (aG Tryz.func389 (by kernel_rfl))))) (E69 (h _)) (k3 (.leaf _) (Vl (h _)) (k1 (cK h (aG Tryz.func453 (by kernel_rfl)))))) (k1 (Nr (h _)))) (cK h (aG
 Tryz.func21 (by kernel_rfl))) (k3 (k2 (k3 (k1 (cK h (aG Tryz.func277 (by kernel_rfl)))) (cK h (aG Tryz.func149 (by kernel_rfl))) (.leaf _)) (k2 (.leaf _) (k1 (cK h (aG Tryz.func469
 (by kernel_rfl)))))) (cK h (aG Tryz.func53 (by kernel_rfl))) (k3 (k1 (Vh (h _))) (ND (h _)) (.leaf _)))) (k3 (k3 (k2 (k3 (.leaf _) (U2 (h _)) (k1 (dK h (aG Tryz.func397 (by
 kernel_rfl))))) (k1 (cK h (aG Tryz.func205 (by kernel_rfl))))) (E45 (h _)) (k3 (k1 (NT (h _))) (Nw (h _)) (k1 (cK h (aG Tryz.func237 (by kernel_rfl)))))) (E29 (h _)) (k2 (k3
 (k1 (NM (h _))) (E93 (h _)) (k1 (cK h (aG Tryz.func221 (by kernel_rfl))))) (k2 (k1 (cK h (aG Tryz.func189 (by kernel_rfl)))) (k1 (cK h (aG Tryz.func253 (by kernel_rfl))))))))))
 (k2 (k2 (k2 (k3 (k2 (k3 (k3 (k1 (cK h (aG Tryz.func256 (by kernel_rfl)))) (NI (h _)) (.leaf _)) (E64 (h _)) (k1 (NW (h _)))) (k3 (k1 (NP (h _))) (cK h (aG Tryz.func96 (by
 kernel_rfl))) (.leaf _))) (E16 (h _)) (k3 (k2 (k1 (U5 (h _))) (k1 (dK h (aG Tryz.func208 (by kernel_rfl))))) (E48 (h _)) (k3 (k3 (k1 (dK h (aG Tryz.func304 (by kernel_rfl))))
 (Vc (h _)) (.leaf _)) (Ny (h _)) (.leaf _)))) (k2 (k2 (k2 (k1 (UY (h _))) (k3 (.leaf _) (N1 (h _)) (k1 (cK h (aG Tryz.func456 (by kernel_rfl)))))) (.leaf _)) (k2 (k3 (k3 (k1
 (cK h (aG Tryz.func280 (by kernel_rfl)))) (dK h (aG Tryz.func152 (by kernel_rfl))) (.leaf _)) (E88 (h _)) (k1 (cK h (aG Tryz.func216 (by kernel_rfl))))) (k3 (k3 (k1 (cK h (aG
 Tryz.func312 (by kernel_rfl)))) (cK h (aG Tryz.func184 (by kernel_rfl))) (.leaf _)) (NH (h _)) (.leaf _))))) (k2 (k2 (k2 (k3 (k1 (UT (h _))) (E68 (h _)) (k3 (.leaf _) (N0 (h
 _)) (k1 (cK h (aG Tryz.func452 (by kernel_rfl)))))) (k2 (.leaf _) (k1 (cK h (aG Tryz.func228 (by kernel_rfl)))))) (k2 (k2 (k3 (k1 (cK h (aG Tryz.func276 (by kernel_rfl)))) (cK
 h (aG Tryz.func148 (by kernel_rfl))) (.leaf _)) (k2 (k1 (cK h (aG Tryz.func340 (by kernel_rfl)))) (.leaf _))) (k3 (k1 (Vg (h _))) (NC (h _)) (.leaf _)))) (k3 (k2 (k2 (k3 (k1
 (cK h (aG Tryz.func268 (by kernel_rfl)))) (U1 (h _)) (.leaf _)) (k1 (cK h (aG Tryz.func204 (by kernel_rfl))))) (k3 (.leaf _) (Nv (h _)) (k1 (cK h (aG Tryz.func236 (by kernel_rfl))))))
 (E28 (h _)) (k2 (k3 (.leaf _) (cK h (aG Tryz.func92 (by kernel_rfl))) (k1 (cK h (aG Tryz.func220 (by kernel_rfl))))) (k2 (k1 (cK h (aG Tryz.func188 (by kernel_rfl)))) (k1 (cK
 h (aG Tryz.func252 (by kernel_rfl))))))))) (k2 (k2 (k2 (k2 (k3 (.leaf _) (E66 (h _)) (k3 (.leaf _) (NY (h _)) (k1 (cK h (aG Tryz.func450 (by kernel_rfl)))))) (k2 (k1 (NR (h
 _))) (.leaf _))) (k3 (k3 (k3 (k1 (dK h (aG Tryz.func274 (by kernel_rfl)))) (U7 (h _)) (.leaf _)) (E82 (h _)) (k1 (cK h (aG Tryz.func210 (by kernel_rfl))))) (E50 (h _)) (k3 (k1
 (Ve (h _))) (NA (h _)) (.leaf _)))) (k3 (k3 (k2 (k3 (k1 (cK h (aG Tryz.func266 (by kernel_rfl)))) (UZ (h _)) (.leaf _)) (k1 (Vq (h _)))) (cK h (aG Tryz.func42 (by kernel_rfl)))
 (k1 (Nt (h _)))) (E26 (h _)) (k2 (k3 (k1 (NL (h _))) (E90 (h _)) (.leaf _)) (k2 (k3 (k1 (cK h (aG Tryz.func314 (by kernel_rfl)))) (cK h (aG Tryz.func186 (by kernel_rfl))) (.leaf
 _)) (k1 (cK h (aG Tryz.func250 (by kernel_rfl)))))))) (k3 (k2 (k2 (k3 (k1 (UW (h _))) (E70 (h _)) (k3 (.leaf _) (Vn (h _)) (k1 (cK h (aG Tryz.func454 (by kernel_rfl)))))) (k2
 (k2 (k1 (dK h (aG Tryz.func294 (by kernel_rfl)))) (.leaf _)) (k1 (cK h (aG Tryz.func230 (by kernel_rfl)))))) (k3 (k3 (k3 (k1 (cK h (aG Tryz.func278 (by kernel_rfl)))) (cK h (aG
 Tryz.func150 (by kernel_rfl))) (.leaf _)) (E86 (h _)) (.leaf _)) (dK h (aG Tryz.func54 (by kernel_rfl))) (k3 (k1 (Vi (h _))) (NF (h _)) (.leaf _)))) (cK h (aG Tryz.func14 (by
 kernel_rfl))) (k2 (k3 (k3 (k1 (U3 (h _))) (E78 (h _)) (k3 (k1 (cK h (aG Tryz.func334 (by kernel_rfl)))) (cK h (aG Tryz.func206 (by kernel_rfl))) (k1 (cK h (aG Tryz.func462 (by
 kernel_rfl)))))) (cK h (aG Tryz.func46 (by kernel_rfl))) (k2 (k1 (cK h (aG Tryz.func174 (by kernel_rfl)))) (k1 (cK h (aG Tryz.func238 (by kernel_rfl)))))) (k2 (k3 (k1 (NN (h
 _))) (cK h (aG Tryz.func94 (by kernel_rfl))) (k1 (cK h (aG Tryz.func222 (by kernel_rfl))))) (k2 (k1 (NU (h _))) (k1 (cK h (aG Tryz.func254 (by kernel_rfl)))))))))))
end Go.Vm.X
end
noncomputable section
namespace Go.Vm.X
open Go
theorem bV (v:V) (k:V→bB):ae (some v) k=k v:=vf v k
theorem bS (v:V) (s:S) (k:V→S→bB):af (some (v,s)) k=k v s:=by rw [lI]
theorem cT (a b:bB):ax (.bool true) a b=a:=rfl
theorem cF (a b:bB):ax (.bool false) a b=b:=rfl
theorem EG (v:V) (l:List V):nth (v::l) 0=v:=rfl
theorem EF (v:V) (l:List V) (n:Nat):nth (v::l) (n+1)=nth l n:=rfl
theorem LP (k:IntKind) (t:Option TI) (a b:Int):an .add t (.int k a) (.int k b)=some (.int k (k.wrap (a+b))):=by simp [an,jV,gq]
theorem ZG (k:IntKind) (t:Option TI) (a b:Int):an .sub t (.int k a) (.int k b)=some (.int k (k.wrap (a - b))):=by simp [an,jV,gq]
theorem ZE (k:IntKind) (t:Option TI) (a b:Int):an .mul t (.int k a) (.int k b)=some (.int k (k.wrap (a*b))):=by simp [an,jV,gq]
theorem LR (k:IntKind) (t:Option TI) (a b:Int) (h:b≠0):an .quo t (.int k a) (.int k b)=some (.int k (k.wrap (a.tdiv b))):=by
 have e:J2 b (Int.ofNat 0)=false:=by rw [jA];exact beq_eq_false_iff_ne.2 h
 simp only [an,jV,gq,e,beq_self_eq_true]
theorem LW (k:IntKind) (t:Option TI) (a b:Int) (h:b≠0):an .rem t (.int k a) (.int k b)=some (.int k (a.tmod b)):=by
 have e:J2 b (Int.ofNat 0)=false:=by rw [jA];exact beq_eq_false_iff_ne.2 h
 simp only [an,jV,e,beq_self_eq_true]
theorem LQ (k:IntKind) (t:Option TI) (a b:Int):an .lss t (.int k a) (.int k b)=some (.bool (decide (a<b))):=by simp [an,jV,uN]
theorem ZD (k:IntKind) (t:Option TI) (a b:Int):an .leq t (.int k a) (.int k b)=some (.bool (decide (a≤b))):=by simp [an,jV,uK]
theorem ZC (k:IntKind) (t:Option TI) (a b:Int):an .gtr t (.int k a) (.int k b)=some (.bool (decide (b<a))):=by simp [an,jV,uN]
theorem ZB (k:IntKind) (t:Option TI) (a b:Int):an .geq t (.int k a) (.int k b)=some (.bool (decide (b≤a))):=by simp [an,jV,uK]
theorem ZA (k:IntKind) (t:Option TI) (a b:Int):an .eql t (.int k a) (.int k b)=some (.bool (decide (a=b))):=by
 by_cases h:a=b
 ·simp [an,FK,jA,h]
 ·have e:(a == b)=false:=beq_eq_false_iff_ne.2 h
  simp [an,FK,jA,h,e]
theorem ZF (k:IntKind) (t:Option TI) (a b:Int):an .neq t (.int k a) (.int k b)=some (.bool (decide (a≠b))):=by
 by_cases h:a=b
 ·simp [an,FK,jA,h]
 ·have e:(a == b)=false:=beq_eq_false_iff_ne.2 h
  simp [an,FK,jA,h,e]
theorem gTT (o:Option V):ay (.bool true) true o=o:=rfl
theorem gFF (o:Option V):ay (.bool false) false o=o:=rfl
theorem gTF (o:Option V):ay (.bool true) false o=some (.dQ []):=rfl
theorem gFT (o:Option V):ay (.bool false) true o=some (.dQ []):=rfl
theorem gU (w:Bool) (o:Option V):ay (.dQ []) w o=some (.dQ []):=rfl
theorem pT (a b:V):bn (.bool true) a b=some a:=rfl
theorem pF (a b:V):bn (.bool false) a b=some b:=rfl
theorem ea (b:Bool):un .not (.bool b)=some (.bool (!b)):=rfl
theorem AJ (k:IntKind) (a:Int):un .neg (.int k a)=some (.int k (k.wrap (0 - a))):=rfl
structure Loc (s₀ s:S):Prop where
 n:s₀.n≤s.n
 fx:s₀.n≤s.wm
 wm:s.wm≤s.n
theorem Loc.refl {s:S} (h:s.wm=s.n):Loc s s:=⟨Nat.le_refl _,Nat.le_of_eq h.symm,Nat.le_of_eq h⟩
structure dX (s₀ s:S) (b:Nat) (cs:List V) (e:Nat) (bL:Bool):Prop where
 lo:s₀.n≤b
 hi:b<s.n
 get:s.h.get b=some (.cells cs e bL true)
end Go.Vm.X
end
noncomputable section
namespace Go.Vm.X
open Go
section
variable (O:aL) (G:Tr Func) (T:Types)
open Classical in
def vV:CF:=fun f args s=>if h: ∃r:V×S,Cl O G T f args s (fun v s'=>(v,s')=r∧s.n≤s'.n) then some h.choose else none
end
variable {O:aL} {G:Tr Func} {T:Types}
theorem C0:uc O G T (vV O G T):=fun f args s r h _=>by
 unfold vV at h
 split at h
 ·rename_i h'
  cases h
  exact h'.choose_spec
 ·cases h
theorem Cl.same {f:Nat} {args:List V} {s:S} {r q:V×S} {A B:V→S→Prop} (h:Cl O G T f args s fun v s'=>(v,s')=r∧A v s') (h':Cl O G T f args s fun v s'=>(v,s')=q∧B v s'):r=q:=by
 obtain ⟨n,x,h1,h2⟩:=h
 obtain ⟨m,y,h3,h4⟩:=h'
 have:=uy h1 h3
 subst this
 split at h2
 ·exact h2.1.symm.trans h4.1
 ·exact h2.elim
theorem CZ {f:Nat} {args:List V} {s:S} {r:V×S} (h:Cl O G T f args s fun v s'=>(v,s')=r∧s.n≤s'.n):vV O G T f args s=some r:=by
 have h': ∃r:V×S,Cl O G T f args s (fun v s'=>(v,s')=r∧s.n≤s'.n):=⟨r,h⟩
 unfold vV
 rw [dif_pos h']
 exact congrArg some (Cl.same h'.choose_spec h)
theorem cc.run {f:Nat} {F:Fn} (hE:cc O G T f F) (n:Nat) {args:List V} {s:S} {r:V×S} (h:F (vV O G T) n args s=some r) (hw:s.wm≤s.n):vV O G T f args s=some r:=CZ (hE _ C0 n args s r h hw)
theorem G8 {f:Nat} {g:List V→S→Option V} (ho:O f=some g) {args:List V} {s:S} {v:V} (h:g args s=some v) (hw:s.n≤s.wm):vV O G T f args s=some (v,s):=
 CZ ⟨1,.val v s,by
  show step kn O G T (go kn O G T 0) (.call f args s)=_
  unfold step cZ
  have:Nat.ble s.n s.wm=true:=by rw [Nat.ble_eq];exact hw
  simp only [ho,this,h],rfl,Nat.le_refl _⟩
@[congr] theorem OO {o o':Option V} {k:V→bB} (h:o=o'):ae o k=ae o' k:=by rw [h]
@[congr] theorem ON {o o':Option (V×S)} {k:V→S→bB} (h:o=o'):af o k=af o' k:=by rw [h]
@[congr] theorem OM {o o':mI} {k:V→S→Fl→bB} (h:o=o'):ai o k=ai o' k:=by rw [h]
@[congr] theorem Pf {v v':V} {a b:bB} (h:v=v'):ax v a b=ax v' a b:=by rw [h]
@[congr] theorem Rb {n:Nat} {b:(List V→S→bB)→List V→S→bB} {l l':List V} {s:S} (h:l=l'):bJ n b l s=bJ n b l' s:=by rw [h]
theorem jE (k:List V→S→bB) (c:(List V→S→bB)→bB) (r:bB):(jn k c=r)=(c k=r):=propext ⟨id,id⟩
theorem MQ {p:Prop} [Decidable p] (a b:bB) (h:p):ax (.bool (decide p)) a b=a:=by rw [decide_eq_true h];rfl
theorem TG {p:Prop} [Decidable p] (a b:bB) (h: ¬p):ax (.bool (decide p)) a b=b:=by rw [decide_eq_false h];rfl
theorem gdT {p:Prop} [Decidable p] (o:Option V) (h:p):ay (.bool (decide p)) true o=o:=by rw [decide_eq_true h];rfl
theorem gdF {p:Prop} [Decidable p] (o:Option V) (h: ¬p):ay (.bool (decide p)) true o=some (.dQ []):=by rw [decide_eq_false h];rfl
theorem WG {p:Prop} [Decidable p] (o:Option V) (h:p):ay (.bool (decide p)) false o=some (.dQ []):=by rw [decide_eq_true h];rfl
theorem WE {p:Prop} [Decidable p] (o:Option V) (h: ¬p):ay (.bool (decide p)) false o=o:=by rw [decide_eq_false h];rfl
theorem pdT {p:Prop} [Decidable p] (a b:V) (h:p):bn (.bool (decide p)) a b=some a:=by rw [decide_eq_true h];rfl
theorem pdF {p:Prop} [Decidable p] (a b:V) (h: ¬p):bn (.bool (decide p)) a b=some b:=by rw [decide_eq_false h];rfl
theorem SP {p:Prop} [Decidable p]:un .not (.bool (decide p))=some (.bool (decide ¬p)):=by
 rw [ea];by_cases h:p<;>simp [h]
theorem eG (k k':IntKind) (n:Int):mK k (.int k' n)=some (.int k (k.wrap n)):=by simp [mK,gq]
theorem br {n:Int} (h: -9223372036854775808≤n) (h':n≤9223372036854775807):IntKind.i64.wrap n=n:=wrap64 h h'
theorem MD {n:Int} (h:0≤n) (h':n≤255):IntKind.u8.wrap n=n:=by
 simp [IntKind.wrap,IntKind.bits,IntKind.signed];omega
theorem H9 {n:Int} (h:0≤n) (h':n≤18446744073709551615):IntKind.u64.wrap n=n:=by
 simp [IntKind.wrap,IntKind.bits,IntKind.signed];omega
theorem RE (k:IntKind) (t:Option TI) (a b:Int) (h:0≤a) (h':0<b):an .quo t (.int k a) (.int k b)=some (.int k (k.wrap (a / b))):=by
 rw [LR _ _ _ _ (by omega),Int.tdiv_eq_ediv_of_nonneg h]
theorem E0 (k:IntKind) (t:Option TI) (a b:Int) (h:0≤a) (h':0<b):an .rem t (.int k a) (.int k b)=some (.int k (a % b)):=by
 rw [LW _ _ _ _ (by omega),Int.tmod_eq_emod_of_nonneg h]
theorem aP {body:(List V→S→bB)→List V→S→bB} (Q:bB→Prop) (I:Nat→List V→S→Prop)
  (step: ∀ih k vs s,I k vs s→(∀k' vs' s',k'<k→I k' vs' s'→Q (ih vs' s'))→Q (body ih vs s)):
  ∀n k vs s,I k vs s→k<n→Q (bJ n body vs s)
 |0,_,_,_,_,h=>absurd h (Nat.not_lt_zero _)
 |n+1,k,vs,s,hi,hk=>step (bJ n body) k vs s hi fun k' vs' s' hl hi'=>aP Q I step n k' vs' s' hi' (by omega)
theorem Wx (v:V) (l:List V):cV 0 (.dQ (v::l))=some v:=rfl
theorem Wy (u v:V) (l:List V):cV 1 (.dQ (u::v::l))=some v:=rfl
theorem Wz (u v w:V) (l:List V):cV 2 (.dQ (u::v::w::l))=some w:=rfl
def atom:V→Bool
 | .bool _=>true
 | .int _ _=>true
 | .str _=>true
 | .mc=>true
 | .yM=>true
 | .pJ=>true
 | .pH=>true
 | .ah=>true
 | .iL _ _=>true
 | .dS _=>true
 | .fn _ [] []=>true
 |_=>false
def az:V→Bool
 | .agg cs=>cs.all atom
 | .dQ cs=>cs.all fun v=>match v with
  | .agg cs=>cs.all atom
  |v=>atom v
 |v=>atom v
theorem oh {v:V} (h:atom v=true) (s:S) (n:Nat):kB s (n+1) v=some (v, []):=by
 unfold atom at h
 split at h<;>first|rfl|(cases h;done)
theorem jS (s:S) (n:Nat): ∀ {l:List V},l.all atom=true→jf (kB s (n+1)) l=some (l, [])
 | [],_=>rfl
 |v::l,h=>by
  simp only [List.all_cons,Bool.and_eq_true] at h
  simp only [jf,oh h.1,jS s n h.2,List.append_nil]
theorem zQ (s:S) (n:Nat) {cs:List V} (h:cs.all atom=true):kB s (n+2) (.agg cs)=some (.agg cs, []):=by
 show (match jf (kB s (n+1)) cs with
  |some (cs,bs)=>some (V.agg cs,bs)
  |none=>none)=_
 rw [jS s n h]
theorem Hi (s:S) (n:Nat) {v:V} (h:(match v with
  | .agg cs=>cs.all atom
  |v=>atom v)=true):kB s (n+2) v=some (v, []):=by
 split at h
 ·exact zQ s n h
 ·exact oh h s (n+1)
theorem wz (s:S) (n:Nat): ∀ {l:List V},(l.all fun v=>match v with
  | .agg cs=>cs.all atom
  |v=>atom v)=true→jf (kB s (n+2)) l=some (l, [])
 | [],_=>rfl
 |v::l,h=>by
  simp only [List.all_cons,Bool.and_eq_true] at h
  simp only [jf,Hi s n h.1,wz s n h.2,List.append_nil]
theorem Iz {v:V} (h:az v=true) (s:S):kB s 24 v=some (v, []):=by
 unfold az at h
 split at h
 ·exact zQ s 22 h
 ·rename_i cs
  show (match jf (kB s 23) cs with
   |some (cs,bs)=>some (V.dQ cs,bs)
   |none=>none)=_
  rw [wz s 21 h]
 ·exact oh h s 23
theorem ib: ∀ {l:List V} (s:S),l.all az=true→dA l s=(l, [],s)
 | [],_,_=>rfl
 |v::l,s,h=>by
  simp only [List.all_cons,Bool.and_eq_true] at h
  unfold dA
  simp only [Iz h.1,mark,ib s h.2,List.append_nil]
theorem oU {v:V} (h:az v=true):dB v=false:=by
 unfold az at h
 split at h
 ·rfl
 ·rfl
 ·unfold atom at h
  split at h<;>first|rfl|(cases h;done)
theorem jQ: ∀ {l:List V},l.all az=true→l.any dB=false
 | [],_=>rfl
 |v::l,h=>by
  simp only [List.all_cons,Bool.and_eq_true] at h
  simp only [List.any_cons,oU h.1,jQ h.2,Bool.or_self]
def jK (cf:CF) (f:Nat) (args:List V) (v:V):Prop:= ∀s,s.wm=s.n→cf f args s=some (v,s)
theorem S.eta {s:S} {w:Nat} (h:s.wm=w): { s with wm:=w } =s:=by obtain ⟨a,b,c⟩:=s;cases h;rfl
theorem bO {cf:CF} {dr st:Bool} {f:Nat} {args:List V} {v:V} (hc:jK cf f args v) (ha:args.all az=true) {s:S} (hs:s.wm≤s.n):au cf dr st (.fn f [] []) args s=some (v,s):=by
 unfold au
 rw [jQ ha]
 simp only [List.nil_append,List.append_nil]
 rw [ib _ ha]
 simp only []
 rw [hc { s with wm:=s.n } rfl]
 have hd:xa dr st [] (Nat.ble s.n s.n)=true:=by
  have:Nat.ble s.n s.n=true:=by rw [Nat.ble_eq];exact Nat.le_refl _
  rw [this];cases dr<;>cases st<;>rfl
 simp only [hd,least]
 rw [Nat.min_eq_left hs]
theorem iH {v:V} (h:dB v=false) {l:List (Option V)} :nX (some v::l)=(match nX l with
  |some l=>some (v::l)
  |none=>none):=by
 cases v<;>first|rfl|(cases h;done)
theorem Dq {s s':S} {vs:List V} {os:List (Option V)} (ho:nX os=some vs) (h:az (fi vs)=true) (h1:s.n≤s.wm) (h2:s.n≤s'.wm):aC s s' os=some (fi vs,s):=by
 unfold aC
 rw [ho]
 simp only []
 unfold packed
 have hc:(Nat.ble s.n s.wm && Nat.ble s.n s'.wm)=true:=by simp only [Bool.and_eq_true,Nat.ble_eq];exact ⟨h1,h2⟩
 simp only [hc]
 have hp:pack s s' (fi vs)=lf s s' (fi vs):=by
  unfold pack
  split
  ·rename_i b o l c z e;rw [e] at h;cases h
  ·rfl
 rw [hp]
 unfold lf
 rw [Iz h]
 rfl
theorem aO {s s':S} {v:V} (h:az v=true) (h1:s.n≤s.wm) (h2:s.n≤s'.wm):aC s s' [some v]=some (v,s):=
 Dq (vs:= [v]) (by rw [iH (oU h)];rfl) h h1 h2
theorem jO {v:V} (h:(match v with
  | .agg cs=>cs.all atom
  |v=>atom v)=true):dB v=false:=by
 split at h
 ·rfl
 ·unfold atom at h
  split at h<;>first|rfl|(cases h;done)
theorem lR {s s':S} {u v:V} (h:az (.dQ [u,v])=true) (h1:s.n≤s.wm) (h2:s.n≤s'.wm):aC s s' [some u,some v]=some (.dQ [u,v],s):=by
 have h':=h
 simp only [az,List.all_cons,List.all_nil,Bool.and_true,Bool.and_eq_true] at h'
 exact Dq (vs:= [u,v]) (by rw [iH (jO h'.1),iH (jO h'.2)];rfl) h h1 h2
theorem eu {s s':S} {u v w:V} (h:az (.dQ [u,v,w])=true) (h1:s.n≤s.wm) (h2:s.n≤s'.wm):aC s s' [some u,some v,some w]=some (.dQ [u,v,w],s):=by
 have h':=h
 simp only [az,List.all_cons,List.all_nil,Bool.and_true,Bool.and_eq_true] at h'
 exact Dq (vs:= [u,v,w]) (by rw [iH (jO h'.1),iH (jO h'.2.1),iH (jO h'.2.2)];rfl) h h1 h2
theorem st:(∀(v:V) (k:V→bB),ae (some v) k=k v)∧(∀(v:V) (s:S) (k:V→S→bB),af (some (v,s)) k=k v s)∧(∀(v:V) (l:List V),nth (v::l) 0=v)∧(∀(v:V) (l:List V) (n:Nat),nth (v::l) (n+1)=nth l n)∧
  (∀a b:bB,ax (.bool true) a b=a)∧(∀a b:bB,ax (.bool false) a b=b)∧
  (∀(p:Prop) [Decidable p] (a b:bB),p→ax (.bool (decide p)) a b=a)∧(∀(p:Prop) [Decidable p] (a b:bB),¬p→ax (.bool (decide p)) a b=b)∧
  (∀(p:Prop) [Decidable p] (o:Option V),p→ay (.bool (decide p)) true o=o)∧(∀(p:Prop) [Decidable p] (o:Option V),¬p→ay (.bool (decide p)) true o=some (.dQ []))∧
  (∀(p:Prop) [Decidable p] (o:Option V),p→ay (.bool (decide p)) false o=some (.dQ []))∧(∀(p:Prop) [Decidable p] (o:Option V),¬p→ay (.bool (decide p)) false o=o)∧
  (∀(p:Prop) [Decidable p] (a b:V),p→bn (.bool (decide p)) a b=some a)∧(∀(p:Prop) [Decidable p] (a b:V),¬p→bn (.bool (decide p)) a b=some b)∧
  (∀(w:Bool) (o:Option V),ay (.dQ []) w o=some (.dQ []))∧(∀o:Option V,ay (.bool true) true o=o)∧(∀o:Option V,ay (.bool false) false o=o)∧(∀o:Option V,ay (.bool true) false o=some (.dQ []))∧(∀o:Option V,ay (.bool false) true o=some (.dQ []))∧
  (∀a b:V,bn (.bool true) a b=some a)∧(∀a b:V,bn (.bool false) a b=some b)∧
  (∀ [Decidable True],decide True=true)∧(∀ [Decidable False],decide False=false)∧(∀n:Nat,Int.toNat (n:Int)=n)∧Int.toNat 0=0∧Int.toNat 1=1∧
  (∀(v:V) (l:List V),cV 0 (.dQ (v::l))=some v)∧(∀(u v:V) (l:List V),cV 1 (.dQ (u::v::l))=some v)∧(∀(u v w:V) (l:List V),cV 2 (.dQ (u::v::w::l))=some w):=
 ⟨bV,bS,EG,EF,cT,cF,fun _ _=>MQ,fun _ _=>TG,fun _ _=>gdT,fun _ _=>gdF,fun _ _=>WG,fun _ _=>WE,fun _ _=>pdT,fun _ _=>pdF,fun w o=>gU w o,gTT,gFF,gTF,gFT,pT,pF,(by intro _;exact decide_eq_true trivial),(by intro _;exact decide_eq_false id),Int.toNat_natCast,rfl,rfl,Wx,Wy,Wz⟩
theorem si (t:Option TI):(∀(k:IntKind) (a b:Int),an .add t (.int k a) (.int k b)=some (.int k (k.wrap (a+b))))∧(∀(k:IntKind) (a b:Int),an .sub t (.int k a) (.int k b)=some (.int k (k.wrap (a - b))))∧
  (∀(k:IntKind) (a b:Int),an .mul t (.int k a) (.int k b)=some (.int k (k.wrap (a*b))))∧
  (∀(k:IntKind) (a b:Int),0≤a→0<b→an .quo t (.int k a) (.int k b)=some (.int k (k.wrap (a / b))))∧(∀(k:IntKind) (a b:Int),0≤a→0<b→an .rem t (.int k a) (.int k b)=some (.int k (a % b)))∧
  (∀(k:IntKind) (a b:Int),an .lss t (.int k a) (.int k b)=some (.bool (decide (a<b))))∧(∀(k:IntKind) (a b:Int),an .leq t (.int k a) (.int k b)=some (.bool (decide (a≤b))))∧
  (∀(k:IntKind) (a b:Int),an .gtr t (.int k a) (.int k b)=some (.bool (decide (b<a))))∧(∀(k:IntKind) (a b:Int),an .geq t (.int k a) (.int k b)=some (.bool (decide (b≤a))))∧
  (∀(k:IntKind) (a b:Int),an .eql t (.int k a) (.int k b)=some (.bool (decide (a=b))))∧(∀(k:IntKind) (a b:Int),an .neq t (.int k a) (.int k b)=some (.bool (decide (a≠b)))):=
 ⟨fun k=>LP k t,fun k=>ZG k t,fun k=>ZE k t,fun k=>RE k t,fun k=>E0 k t,fun k=>LQ k t,fun k=>ZD k t,fun k=>ZC k t,fun k=>ZB k t,fun k=>ZA k t,fun k=>ZF k t⟩
inductive Fs (z:Nat):V→Nat→List V→Prop
 |nil:Fs z .ah 0 []
 |mk (cs:List V) (l:Nat) (h:cs.length=l*z):Fs z (.iL cs l) l cs
theorem Fs.len {z:Nat} {v:V} {l:Nat} {cs:List V} (h:Fs z v l cs):aN v=some (.int .i64 l):=by cases h<;>rfl
theorem Fs.cells {z:Nat} {v:V} {l:Nat} {cs:List V} (h:Fs z v l cs):cs.length=l*z:=by cases h with
 |nil=>simp
 |mk _ _ h=>exact h
theorem Fs.atom {z:Nat} {v:V} {l:Nat} {cs:List V} (h:Fs z v l cs):atom v=true:=by cases h<;>rfl
theorem Fs.az {z:Nat} {v:V} {l:Nat} {cs:List V} (h:Fs z v l cs):az v=true:=by cases h<;>rfl
theorem Fs.ix {z:Nat} {v:V} {l:Nat} {cs:List V} (h:Fs z v l cs) (k:IntKind) {i:Int} (h0:0≤i) (h1:i<l):ck z v (.int k i)=some (.dS (cs.drop (i.toNat*z))):=by
 cases h with
 |nil=>omega
 |mk cs l h=>
  obtain ⟨n,rfl⟩: ∃n:Nat,i=n:=⟨i.toNat,by omega⟩
  have h2:Em (n:Int) l=true:=by show Nat.blt n l=true;rw [Nat.blt_eq];omega
  have h3:Nat.ble (n*z) cs.length=true:=by rw [Nat.ble_eq,h];exact Nat.mul_le_mul_right _ (by omega)
  simp only [ck,h2,Int.toNat_natCast,mW,h3]
theorem Q7 {cs:List V} (s:S) {n:Nat} (h:n<cs.length):aM s (.dS (cs.drop n))=some (cs.getD n .bad):=by
 have h1:cs.drop n=cs.getD n .bad::cs.drop (n+1):=by
  rw [List.drop_eq_getElem_cons h];simp [h]
 have h2:takeN 1 (cs.getD n .bad::cs.drop (n+1))=some [cs.getD n .bad]:=by
  unfold takeN
  have:Nat.ble 1 (cs.getD n .bad::cs.drop (n+1)).length=true:=by rw [Nat.ble_eq];simp
  simp only [this];rfl
 unfold aM rd
 rw [h1]
 simp only [h2]
theorem Q8 {cs:List V} (s:S) {n z:Nat} (h:n+z≤cs.length):aD z s (.dS (cs.drop n))=some (.agg ((cs.drop n).take z)):=by
 unfold aD rd takeN
 have:Nat.ble z (cs.drop n).length=true:=by rw [Nat.ble_eq,List.length_drop];omega
 simp only [this]
def Is (k:IntKind) (v:V) (l:List Int):Prop:=Fs 1 v l.length (l.map (V.int k))
theorem Is.nil (k:IntKind):Is k .ah []:=Fs.nil
theorem Is.mk (k:IntKind) (l:List Int):Is k (.iL (l.map (V.int k)) l.length) l:=Fs.mk _ _ (by simp)
theorem Is.len {k:IntKind} {v:V} {l:List Int} (h:Is k v l):aN v=some (.int .i64 l.length):=Fs.len h
theorem Is.atom {k:IntKind} {v:V} {l:List Int} (h:Is k v l):atom v=true:=Fs.atom h
theorem Is.az {k:IntKind} {v:V} {l:List Int} (h:Is k v l):az v=true:=Fs.az h
theorem Is.ix {k:IntKind} {v:V} {l:List Int} (h:Is k v l) (k':IntKind) {i:Int} (h0:0≤i) (h1:i<l.length):ck 1 v (.int k' i)=some (.dS ((l.map (V.int k)).drop i.toNat)):=by
 have:=Fs.ix h k' h0 h1
 rwa [Nat.mul_one] at this
theorem dW (k:IntKind) (l:List Int) (s:S) {n:Nat} (h:n<l.length):aM s (.dS ((l.map (V.int k)).drop n))=some (.int k (l.getD n 0)):=by
 rw [Q7 s (by simpa using h)]
 simp [h]
end Go.Vm.X
end
noncomputable section
namespace Go.Vm.X
open Go Go.Vm Go.Proofs.bt
def g0:Obj:= .cells [.fn 449 [] [],.fn 450 [] [],.fn 451 [] [],.fn 452 [] []] 204 false false
def g1:Obj:= .cells [.map 2] 318 false false
def g2:Obj:= .map [(.int .i64 0,.agg [.fn 453 [] [],.fn 228 [] []]),(.int .i64 1,.agg [.fn 454 [] [],.fn 455 [] []]),(.int .i64 2,.agg [.fn 456 [] [],.fn 457 [] []])] false
open Classical in
def rG (args:List V) (s:S):Option V:=if args= []∧s.h.get 0=some g0∧s.h.get 1=some g1∧s.h.get 2=some g2 then some (.bool true) else none
def OL:aL:=fun f=>match f with
 |21=>some rG
 |_=>none
theorem aE {f:Nat} (h:f≠21):OL f=none:=by
 unfold OL
 split
 ·exact absurd rfl h
 ·rfl
abbrev cx:CF:=vV OL funcs types
def around (n m:Int):Int:=if n<0 then (-(n+1)) % m else n % m
theorem c9 (n m:Int) (h1: -9223372036854775808≤n) (h2:n≤9223372036854775807) (h3:0<m) (h4:m≤9223372036854775807):jK cx 9 [.int .i64 n,.int .i64 m] (.int .i64 (around n m)):=fun s hs=>
 (E9 (aE (by decide))).run 0 (by
  show F9 cx 0 (.int .i64 n) (.int .i64 m) s=_
  unfold F9
  by_cases h:n<0
  ·simp (disch:=omega) only [jE,bV,MQ,LQ,LP,AJ,EG,EF,br,E0]
   rw [aO rfl (by omega) (by omega),around,if_pos h,show (0 - (n+1))= -(n+1) by omega]
  ·simp (disch:=omega) only [jE,bV,TG,LQ,LP,AJ,EG,EF,br,E0]
   rw [aO rfl (by omega) (by omega),around,if_neg h]) (by omega)
theorem rn {a b:List Int} (h:a.length=b.length) (h': ∀j,j<a.length→a.getD j 0=b.getD j 0):a=b:=by
 apply List.ext_getElem h
 intro i h1 h2
 have:=h' i h1
 simpa [h1,h2] using this
theorem Wg {x y:V} {a b:List Int} (hx:Is .u8 x a) (hy:Is .u8 y b) (hl:a.length<9223372036854775807):jK cx 23 [x,y] (.bool (decide (a=b))):=fun s hs=>
 (E23 (aE (by decide))).run (a.length+1) (by
  show S8 cx _ x y s=_
  unfold S8
  by_cases h:a.length=b.length
  ·simp (disch:=omega) only [jE,st,si,hx.len,hy.len]
   refine aP (fun r=>r=_) (fun k vs s'=> ∃i:Int,vs= [.int .i64 i,x,y]∧s'=s∧0≤i∧i+k=a.length∧ ∀j:Nat,j<i→a.getD j 0=b.getD j 0) ?_ _ a.length _ _ ⟨0,rfl,rfl,by omega,by omega,by omega⟩ (by omega)
   rintro ih k _ _ ⟨i,rfl,rfl,h0,h1,hp⟩ eZ
   by_cases hi:i<a.length
   ·simp (disch:=omega) only [jE,st,si,hx.len,hy.len,hx.ix,hy.ix,dW]
    by_cases he:a.getD i.toNat 0=b.getD i.toNat 0
    ·simp (disch:=omega) only [jE,st,he,br,not_true,ne_eq]
     refine eZ (k - 1) _ _ (by omega) ⟨i+1,rfl,rfl,by omega,by omega,fun j hj=> ?_⟩
     by_cases KY:(j:Int)=i
     ·rwa [show j=i.toNat by omega]
     ·exact hp j (by omega)
    ·rw [MQ _ _ (by exact he),aO rfl (by omega) (by omega),decide_eq_false (fun e=>he (by rw [e]))]
   ·simp (disch:=omega) only [jE,st,si,hx.len,hy.len]
    rw [aO rfl (by omega) (by omega),decide_eq_true (rn h fun j hj=>hp j (by omega))]
  ·simp (disch:=omega) only [jE,st,si,hx.len,hy.len]
   rw [aO rfl (by omega) (by omega),decide_eq_false (fun e=>h (by rw [e]))]) (by omega)
end Go.Vm.X
end
noncomputable section
namespace Go.Vm.X
open Go
def aA:V→List Nat
 | .sl b _ _ _ _=> [b]
 |_=> []
def Kp (s s':S) (X:List Nat):Prop:=s.n≤s'.n∧ ∀c,c<s.n→c∉X→s'.h.get c=s.h.get c
theorem Kp.refl (s:S) (X:List Nat):Kp s s X:=⟨Nat.le_refl _,fun _ _ _=>rfl⟩
theorem Kp.trans {s s' tR:S} {X Y:List Nat} (h:Kp s s' X) (h':Kp s' tR Y) (hY: ∀c,c∈Y→c∈X∨s.n≤c):Kp s tR X:=
 ⟨Nat.le_trans h.1 h'.1,fun c hc hx=>by
  rw [h'.2 c (Nat.lt_of_lt_of_le hc h.1) (fun hy=>(hY c hy).elim hx (fun hn=>absurd hc (Nat.not_lt.2 hn))),h.2 c hc hx]⟩
theorem Kp.mono {s s':S} {X Y:List Nat} (h:Kp s s' X) (hY: ∀c,c∈X→c∈Y):Kp s s' Y:=⟨h.1,fun c hc hx=>h.2 c hc fun hy=>hx (hY c hy)⟩
theorem dX.kp {s₀ s s':S} {b:Nat} {cs:List V} {e:Nat} {bL:Bool} {X:List Nat} (h:dX s₀ s b cs e bL) (hk:Kp s s' X) (hx:b∉X):dX s₀ s' b cs e bL:=
 ⟨h.lo,Nat.lt_of_lt_of_le h.hi hk.1,by rw [hk.2 b h.hi hx];exact h.get⟩
inductive Ow (s₀ s:S) (e z:Nat):V→Nat→List V→Prop
 |nil:Ow s₀ s e z .ah 0 []
 |aF (b l:Nat) (cs:List V) (bL:Bool) (h:dX s₀ s b cs e bL) (hl:cs.length=l*z):Ow s₀ s e z (.sl b 0 l l z) l cs
theorem Ow.kp {s₀ s s':S} {e z l:Nat} {v:V} {cs:List V} {X:List Nat} (h:Ow s₀ s e z v l cs) (hk:Kp s s' X) (hx: ∀b,b∈aA v→b∉X):Ow s₀ s' e z v l cs:=by
 cases h with
 |nil=>exact .nil
 |aF b l cs bL h hl=>exact .aF b l cs bL (h.kp hk (hx b (by simp [aA]))) hl
theorem Ow.lo {s₀ s:S} {e z l:Nat} {v:V} {cs:List V} (h:Ow s₀ s e z v l cs) {b:Nat} (hb:b∈aA v):s₀.n≤b∧b<s.n:=by
 cases h with
 |nil=>cases hb
 |aF b' l cs bL h hl=>simp only [aA,List.mem_singleton] at hb;subst hb;exact ⟨h.lo,h.hi⟩
theorem Ow.cells {s₀ s:S} {e z l:Nat} {v:V} {cs:List V} (h:Ow s₀ s e z v l cs):cs.length=l*z:=by
 cases h with
 |nil=>simp
 |aF b l cs bL h hl=>exact hl
theorem Ow.len {s₀ s:S} {e z l:Nat} {v:V} {cs:List V} (h:Ow s₀ s e z v l cs):aN v=some (.int .i64 l):=by cases h<;>rfl
theorem Ow.bad {s₀ s:S} {e z l:Nat} {v:V} {cs:List V} (h:Ow s₀ s e z v l cs):dB v=false:=by cases h<;>rfl
theorem Ow.str {s₀ s:S} {e z l:Nat} {v:V} {cs:List V} (h:Ow s₀ s e z v l cs): ∀t,v≠ .str t:=by cases h<;>simp
theorem jZ {s:S} {b o n:Nat} {cs:List V} {e:Nat} {bL own:Bool} (h:s.h.get b=some (.cells cs e bL own)) (hn:o+n≤cs.length):jl s b o n=some ((cs.drop o).take n):=by
 unfold jl
 have:Nat.ble (o+n) cs.length=true:=by rw [Nat.ble_eq];exact hn
 simp only [h,this]
theorem Ow.items {s₀ s:S} {e z l:Nat} {v:V} {cs:List V} (h:Ow s₀ s e z v l cs) {te:TI} (hz:te.size=z) {t:S} (ht: ∀c,c∈aA v→t.h.get c=s.h.get c):items te t v=some (l,cs):=by
 cases h with
 |nil=>rfl
 |aF b l cs bL h hl=>
  have h1:jl t b 0 (l*te.size)=some cs:=by
   rw [jZ (by rw [ht b (by simp [aA])];exact h.get) (by rw [hz];omega),hz,←hl];simp
  show (match jl t b 0 (l*te.size) with
   |some k=>some (l,k)
   |none=>none)=_
  rw [h1]
theorem Fs.items {z l:Nat} {v:V} {cs:List V} (h:Fs z v l cs) {te:TI} (hz:te.size=z) (t:S):items te t v=some (l,cs):=by
 cases h with
 |nil=>rfl
 |mk cs l h=>
  have h1:takeN (l*te.size) cs=some cs:=by
   unfold takeN
   have:Nat.ble (l*te.size) cs.length=true:=by rw [Nat.ble_eq,hz,h];exact Nat.le_refl _
   simp only [this]
   rw [hz,←h];simp
  show (match takeN (l*te.size) cs with
   |some k=>some (l,k)
   |none=>none)=_
  rw [h1]
theorem my {s:S} {v:V} (h:s.wm≤s.n):aq s (some (v,aw s))=some (v,s):=by
 obtain ⟨a,n,w⟩:=s
 simp only [aq,aw]
 rw [Nat.min_eq_left h]
theorem Ij {s₀ s:S} {e z l n:Nat} {te:TI} {x y:V} {cs d:List V} (hl:Loc s₀ s) (hx:Ow s₀ s e z x l cs) (qk:dB y=false) (hst: ∀t,y≠ .str t) (hi:items te (aw s) y=some (n,d)) (hd:d.all aR=true) (nD:d.length=n*z)
  (hs:te.size=z) (hb:0<te.bytes) (hlen:(l+n)*te.bytes≤140737488355328):
  ∃v' s',aq s (bT te e x y (aw s))=some (v',s')∧Ow s₀ s' e z v' (l+n) (cs++d)∧Loc s₀ s'∧Kp s s' (aA x)∧(∀b,b∈aA v'→b∈aA x∨s.n≤b)∧
   ∃t',bT te e x y (aw s)=some (v',t')∧(t'.wm=s.n∨ ∀b,b∈aA v'→s.n≤b):=by
 have h0:=hl.n
 have h1:=hl.fx
 have h2:=hl.wm
 have Kr:bT te e x y (aw s)=cy te e (aw s) x y:=by
  unfold bT
  split
  ·exact absurd rfl (hst _)
  ·unfold CJ
   rw [hx.bad,qk];rfl
 rw [Kr]
 cases n with
 |zero=>
  have P5:d= []:=by cases d with
   |nil=>rfl
   |cons _ _=>simp at nD
  subst P5
  have:cy te e (aw s) x y=some (x,aw s):=by
   unfold cy
   rw [hi]
   cases hx with
   |nil=>rfl
   |aF b l cs bL h hl=>
    have:Nat.ble l l=true:=by rw [Nat.ble_eq];exact Nat.le_refl _
    simp only [this]
  rw [this,my h2]
  exact ⟨x,s,rfl,by simpa using hx,hl,Kp.refl _ _,fun b hb=> .inl hb,_,rfl,.inl rfl⟩
 |succ n=>
  obtain ⟨h,N,w⟩:=s
  simp only [] at h0 h1 h2
  have hf2: ∀t:S,aq ⟨h,N,w⟩ (some (.sl N 0 (l+(n+1)) (l+(n+1)) z,t))=some (.sl N 0 (l+(n+1)) (l+(n+1)) z, { t with wm:=min w t.wm }):=fun t=>rfl
  have bX: ∀(t:S) (pre:List V),fresh te e (n+1) l d pre t=some (.sl t.n 0 (l+(n+1)) (l+(n+1)) z,newObj t (.cells (pre++d) e true true)):=by
   intro t pre
   have c1:Nat.ble ((l+(n+1))*te.bytes) 140737488355328=true:=by rw [Nat.ble_eq];exact hlen
   have c2:Nat.blt 0 te.bytes=true:=by rw [Nat.blt_eq];exact hb
   have c3:Nat.beq d.length ((n+1)*z)=true:=by rw [Nat.beq_eq];exact nD
   unfold fresh
   simp only [c1,c2,c3,hd,hs,Bool.and_self]
  cases hx with
  |nil=>
   have:cy te e (aw ⟨h,N,w⟩) .ah y=some (.sl N 0 (0+(n+1)) (0+(n+1)) z,newObj (aw ⟨h,N,w⟩) (.cells d e true true)):=by
    unfold cy
    rw [hi]
    exact bX _ []
   rw [this]
   refine ⟨_,_,rfl,.aF N _ _ true ⟨by simpa using h0,by simp [newObj,aw],by simp only [newObj,aw];exact Tr.aQ _ _ _⟩ (by simp [nD]),⟨by simp only [newObj,aw];omega,by simp only [newObj,aw];omega,by simp only [newObj,aw];omega⟩,
    ⟨by simp only [newObj,aw];omega,fun c hc _=>by simp only [newObj,aw] at hc ⊢;rw [Tr.aK _ _ (by omega)]⟩,fun b hb=> .inr (by simp [aA,aw] at hb;simp only [hb];omega),_,rfl,.inr fun b hb=>(by simp [aA,aw] at hb;simp only [hb];omega)⟩
  |aF b l cs bL FO hcl=>
   have FP:b<N:=FO.hi
   have abZ:=FO.lo
   have t0:Nat.ble l l=true:=by rw [Nat.ble_eq];exact Nat.le_refl _
   have t1:Nat.ble (l+(n+1)) l=false:=by
    cases hx:Nat.ble (l+(n+1)) l with
    |false=>rfl
    |true=>rw [Nat.ble_eq] at hx;omega
   have hg:(aw ⟨h,N,w⟩).h.get b=some (.cells cs e bL true):=FO.get
   cases bL with
   |false=>
    have:cy te e (aw ⟨h,N,w⟩) (.sl b 0 l l z) y=some (.sl N 0 (l+(n+1)) (l+(n+1)) z,newObj (aw ⟨h,N,w⟩) (.cells (cs++d) e true true)):=by
     unfold cy
     rw [hi]
     have c3:Nat.ble (0+l*te.size) cs.length=true:=by rw [Nat.ble_eq,hs];omega
     simp only [t0,t1,hg,c3]
     have c4:(cs.drop 0).take (l*te.size)=cs:=by rw [hs,←hcl];simp
     rw [c4]
     exact bX _ cs
    rw [this]
    refine ⟨_,_,rfl,.aF N _ _ true ⟨by simpa using h0,by simp [newObj,aw],by simp only [newObj,aw];exact Tr.aQ _ _ _⟩ (by rw [List.length_append,hcl,nD,Nat.add_mul l]),⟨by simp only [newObj,aw];omega,by simp only [newObj,aw];omega,by simp only [newObj,aw];omega⟩,
     ⟨by simp only [newObj,aw];omega,fun c hc _=>by simp only [newObj,aw] at hc ⊢;rw [Tr.aK _ _ (by omega)]⟩,fun b hb=> .inr (by simp [aA,aw] at hb;simp only [hb];omega),_,rfl,.inr fun b hb=>(by simp [aA,aw] at hb;simp only [hb];omega)⟩
   |true=>
    have:cy te e (aw ⟨h,N,w⟩) (.sl b 0 l l z) y=
      some (.sl N 0 (l+(n+1)) (l+(n+1)) z,newObj { aw ⟨h,N,w⟩ with h:=h.set b .dead,wm:=min N b } (.cells (cs++d) e true true)):=by
     unfold cy
     rw [hi]
     have c3:(Nat.beq e e && Nat.beq 0 0 && Nat.beq (l*te.size) cs.length && Nat.beq l l)=true:=by
      rw [hs,←hcl];simp
     simp only [t0,t1,hg,c3]
     rw [bX _ cs]
     rfl
    rw [this]
    refine ⟨_,_,rfl,.aF N _ _ true ⟨by simpa using h0,by simp [newObj,aw],by simp only [newObj,aw];exact Tr.aQ _ _ _⟩ (by rw [List.length_append,hcl,nD,Nat.add_mul l]),⟨by simp only [newObj,aw];omega,by simp only [newObj,aw];omega,by simp only [newObj,aw];omega⟩,
     ⟨by simp only [newObj,aw];omega,fun c hc hcx=> ?_⟩,fun b hb=> .inr (by simp [aA,aw] at hb;simp only [hb];omega),_,rfl,.inr fun b hb=>(by simp [aA,aw] at hb;simp only [hb];omega)⟩
    simp only [newObj,aw] at hc ⊢
    have DK:c≠b:=by simpa [aA] using hcx
    rw [Tr.aK _ _ (by omega),Tr.aK _ _ DK]
theorem OF {s₀ s:S} {e z l n:Nat} {te:TI} {x y:V} {cs d:List V} (hl:Loc s₀ s) (hx:Ow s₀ s e z x l cs) (qk:dB y=false) (hst: ∀t,y≠ .str t) (hi:items te (aw s) y=some (n,d)) (hd:d.all aR=true) (nD:d.length=n*z)
  (hs:te.size=z) (hb:0<te.bytes) (hlen:(l+n)*te.bytes≤140737488355328):
  ∃v' s',aq s (bT te e x y (aw s))=some (v',s')∧Ow s₀ s' e z v' (l+n) (cs++d)∧Loc s₀ s'∧Kp s s' (aA x)∧(∀b,b∈aA v'→b∈aA x∨s.n≤b):=
 let ⟨v',s',h1,h2,h3,h4,h5,_⟩:=Ij hl hx qk hst hi hd nD hs hb hlen
 ⟨v',s',h1,h2,h3,h4,h5⟩
theorem vN {s₀ s:S} {e z l n:Nat} {te:TI} {x y:V} {cs d:List V} (hl:Loc s₀ s) (hx:Ow s₀ s e z x l cs) (hy:Ow s₀ s e z y n d) (hd:d.all aR=true)
  (hs:te.size=z) (hb:0<te.bytes) (hlen:(l+n)*te.bytes≤140737488355328):
  ∃v' s',aq s (bT te e x y (aw s))=some (v',s')∧Ow s₀ s' e z v' (l+n) (cs++d)∧Loc s₀ s'∧Kp s s' (aA x)∧(∀b,b∈aA v'→b∈aA x∨s.n≤b):=
 OF hl hx hy.bad hy.str (hy.items hs (fun _ _=>rfl)) hd hy.cells hs hb hlen
theorem CI {s₀ s:S} {e z l n:Nat} {te:TI} {x y:V} {cs d:List V} (hl:Loc s₀ s) (hx:Ow s₀ s e z x l cs) (hy:Fs z y n d) (hd:d.all aR=true)
  (hs:te.size=z) (hb:0<te.bytes) (hlen:(l+n)*te.bytes≤140737488355328):
  ∃v' s',aq s (bT te e x y (aw s))=some (v',s')∧Ow s₀ s' e z v' (l+n) (cs++d)∧Loc s₀ s'∧Kp s s' (aA x)∧(∀b,b∈aA v'→b∈aA x∨s.n≤b):=
 OF hl hx (by cases hy<;>rfl) (by cases hy<;>simp) (hy.items hs _) hd hy.cells hs hb hlen
theorem qU {s₀ s:S} {z len e:Nat} {ps:List (Nat×Nat×V)} {c l:List V} (hl:Loc s₀ s) (hf:aI c ps=some (.agg l)) (hc:l.length=len*z):
  ∃v' s',aq s (dL z len e c ps (aw s))=some (v',s')∧Ow s₀ s' e z v' len l∧Loc s₀ s'∧Kp s s' []∧(∀b,b∈aA v'→s.n≤b):=by
 have h0:=hl.n
 have h1:=hl.fx
 have h2:=hl.wm
 unfold dL
 rw [hf]
 exact ⟨_,_,rfl,.aF s.n _ _ false ⟨h0,by simp [newObj,aw],by simp only [newObj,aw];exact Tr.aQ _ _ _⟩ hc,⟨by simp only [newObj,aw];omega,by simp only [newObj,aw];omega,by simp only [newObj,aw];omega⟩,
  ⟨by simp only [newObj,aw];omega,fun c hc _=>by simp only [newObj,aw];rw [Tr.aK _ _ (by omega)]⟩,fun b hb=>by simp [aA,aw] at hb;omega⟩
inductive Fz (s:S):V→V→List Nat→Prop
 |at (v:V) (h:atom v=true):Fz s v v []
 |sl (b o l c z:Nat) (cs ds:List V) (e:Nat) (bL own:Bool) (hg:s.h.get b=some (.cells cs e bL own)) (hl:l≤c) (hr:o+l*z≤cs.length) (hds:(cs.drop o).take (l*z)=ds) (ha:ds.all atom=true):Fz s (.sl b o l c z) (.iL ds l) (bif own then [b] else [])
inductive zn (s:S):List V→List V→List Nat→Prop
 |nil:zn s [] [] []
 |cons (v v':V) (bs:List Nat) (l l':List V) (cs:List Nat) (h:Fz s v v' bs) (hl:zn s l l' cs):zn s (v::l) (v'::l') (bs++cs)
theorem zn.atoms {s:S} : ∀ {l:List V},l.all atom=true→zn s l l []
 | [],_=> .nil
 |v::l,h=>by
  simp only [List.all_cons,Bool.and_eq_true] at h
  exact .cons v v [] l l [] (.at v h.1) (zn.atoms h.2)
theorem Fz.kB {s:S} {v v':V} {bs:List Nat} (h:Fz s v v' bs) (n:Nat):kB s (n+2) v=some (v',bs):=by
 cases h with
 | «at» v h=>exact oh h s (n+1)
 |sl b o l c z cs ds e bL own hg hl hr hds ha=>
  have h1:Nat.ble l c=true:=by rw [Nat.ble_eq];exact hl
  show (match Nat.ble l c with
   |false=>none
   |true=>match jl s b o (l*z) with
    |none=>none
    |some cs=>match jf (X.kB s (n+1)) cs with
     |some (cs,bs)=>some (V.iL cs l,iG s b bs)
     |none=>none)=_
  rw [h1,jZ hg hr]
  simp only [hds,jS s n ha]
  unfold iG
  rw [hg]
  cases own<;>rfl
theorem zn.kB {s:S} {l l':List V} {bs:List Nat} (h:zn s l l' bs) (n:Nat):jf (X.kB s (n+2)) l=some (l',bs):=by
 induction h with
 |nil=>rfl
 |cons v v' bs l l' cs h _ ih=>simp only [jf,h.kB n,ih]
inductive xV (s:S):V→V→List Nat→Prop
 |one (v v':V) (bs:List Nat) (h:Fz s v v' bs):xV s v v' bs
 |agg (l l':List V) (bs:List Nat) (h:zn s l l' bs):xV s (.agg l) (.agg l') bs
 |nest (b o l c z:Nat) (cs ds ds':List V) (e:Nat) (bL own:Bool) (bs:List Nat) (hg:s.h.get b=some (.cells cs e bL own)) (hl:l≤c) (hr:o+l*z≤cs.length) (hds:(cs.drop o).take (l*z)=ds) (ha:zn s ds ds' bs):xV s (.sl b o l c z) (.iL ds' l) (iG s b bs)
inductive Jy (s:S):List V→List V→List Nat→Prop
 |nil:Jy s [] [] []
 |cons (v v':V) (bs:List Nat) (l l':List V) (cs:List Nat) (h:xV s v v' bs) (hl:Jy s l l' cs):Jy s (v::l) (v'::l') (bs++cs)
theorem xV.kB {s:S} {v v':V} {bs:List Nat} (h:xV s v v' bs) (n:Nat):kB s (n+3) v=some (v',bs):=by
 cases h with
 |one v v' bs h=>exact h.kB (n+1)
 |agg l l' bs h=>
  show (match jf (X.kB s (n+2)) l with
   |some (cs,bs)=>some (V.agg cs,bs)
   |none=>none)=_
  rw [h.kB n]
 |nest b o l c z cs ds ds' e bL own bs hg hl hr hds ha=>
  have h1:Nat.ble l c=true:=by rw [Nat.ble_eq];exact hl
  show (match Nat.ble l c with
   |false=>none
   |true=>match jl s b o (l*z) with
    |none=>none
    |some cs=>match jf (X.kB s (n+2)) cs with
     |some (cs,bs)=>some (V.iL cs l,iG s b bs)
     |none=>none)=_
  rw [h1,jZ hg hr]
  simp only [hds,ha.kB n]
theorem Jy.kB {s:S} {l l':List V} {bs:List Nat} (h:Jy s l l' bs) (n:Nat):jf (X.kB s (n+3)) l=some (l',bs):=by
 induction h with
 |nil=>rfl
 |cons v v' bs l l' cs h _ ih=>simp only [jf,h.kB n,ih]
theorem xV.bad {s:S} {v v':V} {bs:List Nat} (h:xV s v v' bs):dB v=false:=by
 cases h with
 |one v v' bs h=>cases h with
  | «at» v h=>unfold atom at h;split at h<;>first|rfl|(cases h;done)
  |sl=>rfl
 |agg=>rfl
 |nest=>rfl
theorem rO {n:Nat} {bs:List Nat} (h: ∀b,b∈bs→n≤b):jy n bs=true:=by
 unfold jy
 rw [List.all_eq_true]
 intro b hb
 rw [Nat.ble_eq];exact h b hb
theorem zH {s s':S} {l l':List V} {bs:List Nat} (h:zn s' l l' bs) (h1:s.wm=s.n) (hl:Loc s s') (hb: ∀b,b∈bs→s.n≤b):aC s s' [some (.agg l)]=some (.agg l',s):=by
 unfold aC
 show some (packed s s' (.agg l))=_
 unfold packed
 have hc:(Nat.ble s.n s.wm && Nat.ble s.n s'.wm)=true:=by simp only [Bool.and_eq_true,Nat.ble_eq];exact ⟨by omega,hl.fx⟩
 simp only [hc]
 show some (match lf s s' (.agg l) with
  |some r=>r
  |none=>(.agg l,s'))=_
 unfold lf
 rw [(xV.agg l l' bs h).kB 21]
 simp only [rO hb]
theorem JE {s:S} {l l':List V} {bs:List Nat} (h:Jy s l l' bs):nX (l.map some)=some l:=by
 induction h with
 |nil=>rfl
 |cons v v' bs l l' cs h _ ih=>rw [List.map_cons,iH h.bad,ih]
theorem th {s s':S} {l l':List V} {bs:List Nat} (h:Jy s' l l' bs) (hn:l.length≠1) (h1:s.wm=s.n) (hl:Loc s s') (hb: ∀b,b∈bs→s.n≤b):aC s s' (l.map some)=some (.dQ l',s):=by
 unfold aC
 rw [JE h]
 have ht:fi l= .dQ l:=by
  unfold fi
  split
  ·exact absurd rfl hn
  ·rfl
 simp only [ht]
 unfold packed
 have hc:(Nat.ble s.n s.wm && Nat.ble s.n s'.wm)=true:=by simp only [Bool.and_eq_true,Nat.ble_eq];exact ⟨by omega,hl.fx⟩
 simp only [hc]
 show some (match lf s s' (.dQ l) with
  |some r=>r
  |none=>(.dQ l,s'))=_
 unfold lf
 have:kB s' 24 (.dQ l)=some (.dQ l',bs):=by
  show (match jf (X.kB s' 23) l with
   |some (cs,bs)=>some (V.dQ cs,bs)
   |none=>none)=_
  rw [h.kB 20]
 rw [this]
 simp only [rO hb]
theorem Ow.fz {s₀ s:S} {e z l:Nat} {v:V} {cs:List V} (h:Ow s₀ s e z v l cs) (ha:cs.all atom=true): ∃v' bs,Fz s v v' bs∧Fs z v' l cs∧bs=aA v:=by
 cases h with
 |nil=>exact ⟨_,_,.at _ rfl,.nil,rfl⟩
 |aF b l cs bL h hl=>exact ⟨_,_,.sl b 0 l l z cs cs e bL true h.get (Nat.le_refl _) (by omega) (by rw [←hl];simp) ha,.mk _ _ hl,rfl⟩
def fE (s:S) (e z l:Nat) (cs:List V) (r:bB):Prop:=(l=0∧cs= []∧r=some (.ah,s))∨ ∃bL,r=some (.sl s.n 0 l l z,newObj s (.cells cs e bL true))
theorem jN (s:S) (e z l:Nat) (cs:List V) (k:List V→S→bB) (c:(List V→S→bB)→bB):fE s e z l cs (jn k c)=fE s e z l cs (c k):=propext ⟨id,id⟩
theorem eP {s s':S} {e z l:Nat} {v:V} {cs:List V} (h1:s.wm=s.n) (hl:Loc s s') (h:Ow s s' e z v l cs) (ha:cs.all atom=true):fE s e z l cs (aC s s' [some v]):=by
 have hc:(Nat.ble s.n s.wm && Nat.ble s.n s'.wm)=true:=by simp only [Bool.and_eq_true,Nat.ble_eq];exact ⟨by omega,hl.fx⟩
 cases h with
 |nil=>
  refine .inl ⟨rfl,rfl,?_⟩
  unfold aC
  show some (packed s s' .ah)=_
  unfold packed
  simp only [hc]
  rfl
 |aF b l cs bL h fg=>
  refine .inr ⟨bL,?_⟩
  unfold aC
  show some (packed s s' (.sl b 0 l l z))=_
  unfold packed
  simp only [hc]
  have hp:pack s s' (.sl b 0 l l z)=some (.sl s.n 0 l l z,newObj s (.cells cs e bL true)):=by
   have:Nat.ble s.n b=true:=by rw [Nat.ble_eq];exact h.lo
   simp only [pack,h.get,jS s' 23 ha,this,jy,At,List.all_nil,Bool.and_self]
  rw [hp]
def xM (cf:CF) (f:Nat) (args:List V) (e z l:Nat) (cs:List V):Prop:= ∀s,s.wm=s.n→fE s e z l cs (cf f args s)
theorem cc.runN {O:aL} {G:Tr Func} {T:Types} {f:Nat} {F:Fn} (hE:cc O G T f F) (n:Nat) {args:List V} {s:S} {e z l:Nat} {cs:List V} (h:fE s e z l cs (F (vV O G T) n args s)) (hw:s.wm≤s.n):fE s e z l cs (vV O G T f args s):=by
 rcases h with ⟨h1,h2,h3⟩|⟨bL,h⟩
 ·exact .inl ⟨h1,h2,hE.run n h3 hw⟩
 ·exact .inr ⟨bL,hE.run n h hw⟩
theorem uO: ∀(bs:List Nat) (s:S),(mark bs s).n=s.n∧(mark bs s).wm=s.wm
 | [],_=>⟨rfl,rfl⟩
 |b::bs,s=>by
  unfold mark
  split
  ·exact uO bs _
  ·exact uO bs s
theorem rJ: ∀(bs:List Nat) (s:S) (c:Nat),c∉bs→(mark bs s).h.get c=s.h.get c
 | [],_,_,_=>rfl
 |b::bs,s,c,h=>by
  simp only [List.mem_cons,not_or] at h
  unfold mark
  split
  ·rw [rJ bs _ c h.2]
   simp only []
   rw [Tr.aK _ _ h.1]
  ·exact rJ bs s c h.2
def Rd (s:S) (b:Nat) (cs:List V):Prop:= ∃e bL own,s.h.get b=some (.cells cs e bL own)
theorem qI: ∀(bs:List Nat) (s:S) {c:Nat} {cs:List V},Rd s c cs→Rd (mark bs s) c cs
 | [],_,_,_,h=>h
 |b::bs,s,c,cs,h=>by
  unfold mark
  split
  ·rename_i cs' e bL own hb
   refine qI bs _ ?_
   by_cases hc:c=b
   ·subst hc
    obtain ⟨e',sk,fJ,hg⟩:=h
    rw [hb] at hg
    cases hg
    exact ⟨_,_,_,Tr.aQ _ _ _⟩
   ·obtain ⟨e',sk,fJ,hg⟩:=h
    exact ⟨e',sk,fJ,by simp only [];rw [Tr.aK _ _ hc];exact hg⟩
  ·exact qI bs s h
inductive bK:S→List V→List V→List Nat→S→Prop
 |nil (s:S):bK s [] [] [] s
 |cons (s s':S) (v v':V) (bs:List Nat) (l l':List V) (cs:List Nat) (h:xV s v v' bs) (hl:bK (mark bs s) l l' cs s'):bK s (v::l) (v'::l') (bs++cs) s'
theorem bK.run {s s':S} {l l':List V} {bs:List Nat} (h:bK s l l' bs s'):dA l s=(l',bs,s'):=by
 induction h with
 |nil=>rfl
 |cons s s' v v' bs l l' cs h _ ih=>
  unfold dA
  simp only [h.kB 21,ih]
theorem bK.n {s s':S} {l l':List V} {bs:List Nat} (h:bK s l l' bs s'):s'.n=s.n∧s'.wm=s.wm:=by
 induction h with
 |nil=>exact ⟨rfl,rfl⟩
 |cons s s' v v' bs l l' cs h _ ih=>have:=uO bs s;exact ⟨ih.1.trans this.1,ih.2.trans this.2⟩
theorem bK.out {s s':S} {l l':List V} {bs:List Nat} (h:bK s l l' bs s') {c:Nat} (hc:c∉bs):s'.h.get c=s.h.get c:=by
 induction h with
 |nil=>rfl
 |cons s s' v v' bs l l' cs h _ ih=>
  simp only [List.mem_append,not_or] at hc
  rw [ih hc.2,rJ _ _ _ hc.1]
theorem bK.rd {s s':S} {l l':List V} {bs:List Nat} (h:bK s l l' bs s') {c:Nat} {cs:List V} (hc:Rd s c cs):Rd s' c cs:=by
 induction h with
 |nil=>exact hc
 |cons s s' v v' bs l l' cs h _ ih=>exact ih (qI _ _ hc)
theorem bK.bad {s s':S} {l l':List V} {bs:List Nat} (h:bK s l l' bs s'):l.any dB=false:=by
 induction h with
 |nil=>rfl
 |cons s s' v v' bs l l' cs h _ ih=>rw [List.any_cons,h.bad,ih];rfl
theorem bK.atoms (s:S): ∀ {l:List V},l.all (fun v=>match v with
  | .agg cs=>cs.all atom
  |v=>atom v)=true→bK s l l [] s
 | [],_=> .nil s
 |v::l,h=>by
  simp only [List.all_cons,Bool.and_eq_true] at h
  refine .cons s s v v [] l l [] ?_ (bK.atoms s h.2)
  have h1:=h.1
  split at h1
  ·exact .agg _ _ _ (zn.atoms h1)
  ·exact .one _ _ _ (.at _ h1)
theorem iB {n:Nat} : ∀ {bs:List Nat} {m:Nat},(∀b,b∈bs→n≤b)→n≤m→n≤least bs m
 | [],_,_,h=>h
 |b::bs,m,h,h'=>by
  have:=h b (List.mem_cons_self ..)
  exact iB (bs:=bs) (fun c hc=>h c (List.mem_cons_of_mem _ hc)) (by omega)
theorem kG {bs:List Nat} {m:Nat} :least bs m≤m:=(least_le bs m).1
theorem vT {cf:CF} {dr st:Bool} {f:Nat} {args args':List V} {bs:List Nat} {s₀ s s₁:S} {v:V} (hl:Loc s₀ s) (ha:bK (aw s) args args' bs s₁) (hb: ∀b,b∈bs→s₀.n≤b) (hd:st=true→dr=true→bs= []) (hc:jK cf f args' v):
  ∃s',au cf dr st (.fn f [] []) args s=some (v,s')∧Loc s₀ s'∧Kp s s' bs∧s'.n=s.n∧ ∀c cs,Rd s c cs→Rd s' c cs:=by
 have h0:=hl.n
 have h1:=hl.fx
 have h2:=hl.wm
 have hn:=ha.n
 unfold au
 rw [ha.bad]
 simp only [List.nil_append,List.append_nil]
 have hr:dA args { s with wm:=s.n } =(args',bs,s₁):=ha.run
 rw [hr]
 simp only []
 have hw:s₁.wm=s₁.n:=by rw [hn.1,hn.2];rfl
 rw [hc s₁ hw]
 have gj:xa dr st bs (Nat.ble s.n s₁.wm)=true:=by
  have:Nat.ble s.n s₁.wm=true:=by rw [Nat.ble_eq,hn.2];exact Nat.le_refl _
  rw [this]
  cases dr with
  |false=>rfl
  |true=>cases st with
   |false=>rfl
   |true=>rw [hd rfl rfl];rfl
 simp only [gj]
 refine ⟨_,rfl,⟨by simp only [hn.1];exact h0,iB hb (by rw [hn.2];simp only [aw];omega),Nat.le_trans kG (by simp only [hn.1,aw];omega)⟩,⟨by simp only [hn.1,aw];omega,fun c _ hc=> ?_⟩,by simp only [hn.1];rfl,fun c cs hcs=> ?_⟩
 ·exact ha.out hc
 ·obtain ⟨e,bL,own,hg⟩:=hcs
  exact ha.rd ⟨e,bL,own,hg⟩
theorem ya {cf:CF} {dr st:Bool} {f:Nat} {args args':List V} {bs:List Nat} {s₀ s s₁:S} {e z l:Nat} {cs:List V} (hl:Loc s₀ s) (ha:bK (aw s) args args' bs s₁) (hb: ∀b,b∈bs→s₀.n≤b) (hd:st=true→dr=true→bs= []) (hc:fE s₁ e z l cs (cf f args' s₁)) (hcs:cs.length=l*z):
  ∃v s',au cf dr st (.fn f [] []) args s=some (v,s')∧Ow s₀ s' e z v l cs∧Loc s₀ s'∧Kp s s' bs∧(∀b,b∈aA v→s.n≤b)∧ ∀c cs,Rd s c cs→c<s.n→Rd s' c cs:=by
 have h0:=hl.n
 have h1:=hl.fx
 have h2:=hl.wm
 have hn:=ha.n
 have lY:s₁.n=s.n:=hn.1
 have wK:s₁.wm=s.n:=hn.2
 unfold au
 rw [ha.bad]
 simp only [List.nil_append,List.append_nil]
 have hr:dA args { s with wm:=s.n } =(args',bs,s₁):=ha.run
 rw [hr]
 simp only []
 have hw:s₁.wm=s₁.n:=by omega
 have hok: ∀m,m=s.n→xa dr st bs (Nat.ble s.n m)=true:=by
  intro m hm
  have:Nat.ble s.n m=true:=by rw [Nat.ble_eq,hm];exact Nat.le_refl _
  rw [this]
  cases dr with
  |false=>rfl
  |true=>cases st with
   |false=>rfl
   |true=>rw [hd rfl rfl];rfl
 rcases hc with ⟨rfl,rfl,h⟩|⟨bL,h⟩
 ·rw [h]
  simp only [hok _ wK]
  exact ⟨_,_,rfl,.nil,⟨by simp only [lY];exact h0,iB hb (by omega),Nat.le_trans kG (by simp only [lY];omega)⟩,⟨by simp only [lY];omega,fun c _ hc=>ha.out hc⟩,fun b hb=>(by simp [aA] at hb),fun c cs hcs _=>ha.rd hcs⟩
 ·rw [h]
  simp only [newObj,hok _ wK]
  refine ⟨_,_,rfl,.aF _ _ _ bL ⟨by omega,by simp only [];omega,by simp only [];exact Tr.aQ _ _ _⟩ hcs,⟨by simp only [lY];omega,iB hb (by omega),Nat.le_trans kG (by simp only [lY];omega)⟩,⟨by simp only [lY];omega,fun c hlt hc=> ?_⟩,fun b hb=>by simp [aA] at hb;omega,fun c cs hcs hlt=> ?_⟩
  ·simp only []
   rw [Tr.aK _ _ (by omega)];exact ha.out hc
  ·obtain ⟨e',sk,fJ,hg⟩:=ha.rd hcs
   exact ⟨e',sk,fJ,by simp only [];rw [Tr.aK _ _ (by omega)];exact hg⟩
theorem tf {cf:CF} {dr st:Bool} {f:Nat} {args args':List V} {bs:List Nat} {s₀ s s₁:S} {e z l:Nat} {cs:List V} (hl:Loc s₀ s) (ha:bK (aw s) args args' bs s₁) (hb: ∀b,b∈bs→s₀.n≤b) (hd:st=true→dr=true→bs= []) (hc:xM cf f args' e z l cs) (hcs:cs.length=l*z):
  ∃v s',au cf dr st (.fn f [] []) args s=some (v,s')∧Ow s₀ s' e z v l cs∧Loc s₀ s'∧Kp s s' bs∧(∀b,b∈aA v→s.n≤b)∧ ∀c cs,Rd s c cs→c<s.n→Rd s' c cs:=
 ya hl ha hb hd (hc s₁ (by rw [ha.n.1,ha.n.2];rfl)) hcs
def cm (v:V):Bool:=match v with
 | .agg cs=>cs.all atom
 |v=>atom v
theorem bK.ats (s:S) {l:List V} (h:l.all cm=true):bK s l l [] s:=bK.atoms s h
theorem gO {cf:CF} {dr st:Bool} {f:Nat} {args:List V} {s₀ s:S} {e z l:Nat} {cs:List V} (hl:Loc s₀ s) (ha:args.all cm=true) (hc:xM cf f args e z l cs) (hcs:cs.length=l*z):
  ∃v s',au cf dr st (.fn f [] []) args s=some (v,s')∧Ow s₀ s' e z v l cs∧Loc s₀ s'∧Kp s s' []∧(∀b,b∈aA v→s.n≤b):=
 let ⟨v,s',h1,h2,h3,h4,h5,_⟩:=tf hl (bK.ats _ ha) (fun b hb=>by cases hb) (fun _ _=>rfl) hc hcs
 ⟨v,s',h1,h2,h3,h4,h5⟩
def eL (cf:CF) (f:Nat) (args:List V) (P:V→Prop):Prop:= ∀s,s.wm=s.n→ ∃v,P v∧cf f args s=some (v,s)
theorem aU {cf:CF} {dr st:Bool} {f:Nat} {args:List V} {P:V→Prop} (hc:eL cf f args P) (ha:args.all az=true) {s:S} (hs:s.wm≤s.n): ∃v,P v∧au cf dr st (.fn f [] []) args s=some (v,s):=by
 obtain ⟨v,hv,h⟩:=hc (aw s) rfl
 refine ⟨v,hv,?_⟩
 unfold au
 rw [jQ ha]
 simp only [List.nil_append,List.append_nil]
 rw [ib _ ha]
 simp only []
 have h':cf f args { s with wm:=s.n } =some (v,aw s):=h
 rw [h']
 have hd:xa dr st [] (Nat.ble s.n (aw s).wm)=true:=by
  have:Nat.ble s.n (aw s).wm=true:=by rw [Nat.ble_eq];exact Nat.le_refl _
  rw [this];cases dr<;>cases st<;>rfl
 simp only [hd,least]
 simp only [aw]
 rw [Nat.min_eq_left hs]
end Go.Vm.X
end
