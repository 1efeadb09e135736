/- The law that a part that is not joined takes as its reference does. -/
import Derived.Test.YtkjlgmgfhgamlaaGreatPza
set_option linter.all false

namespace Go.D
theorem Xsz (t:Xk):∃ b,X8q t=some b/\(b=false->Few t):=by
 obtain⟨b,h1,h2⟩:=Xvq t;exact⟨b,h1,λh=>by obtain⟨a1,a2,a3,a4,a5,a6⟩:=h2 h;exact⟨a1,a2,a3,a4,a5,a6⟩⟩
theorem Xp2 (x:X0y):X85 x x=true:=by simp[X85,X1d,Xhh]
theorem Xr8 {q:X0l} (hq:QW q) (t:Xk) (i:Int) {m:Xo} (hv : -9223372036854775808<=m.Record.Value/\m.Record.Value<=9223372036854775807) (n:Int) (x:X1):X6c q t i m n x=some true:=by
 obtain⟨g,hg⟩:=X07a q;obtain⟨g2,hg2,hb⟩:=Xsz t;obtain⟨⟨r0,r1⟩,h1,h2,h3⟩:∃ r,Xcw n i=some r/\Xix n i=some r/\Cmp r.1:=by
  obtain⟨r,h1,h2,h3⟩:=Xy9 n i;exact⟨r,h2,h1,h3⟩
 obtain⟨⟨y0,y1⟩,k1,k2⟩:=Xxo hq x;unfold X6c;rw[hg,hg2]
 cases g with
 |true=>rfl
 |false =>
 cases g2 with
 |true=>rfl
 |false =>
 have f:=hb rfl;obtain⟨⟨u0,u1⟩,t1,t2,t3⟩:=Xuv hq f i hv;have hne:∀ z:Int,(z==z)=true:=λz=>by simp
 simp only[Yo,cond_false];rw[Xpn f,Yo,t1,Yo,t2,Yo,h1,h2];simp only[Yo];rw[k1,k2];simp only[Yo];rw[t3.same,h3.same,f.cmp.same];simp only[Yo,cond_true,hne,Xp2]
theorem Xig (q:X0l) (t:Xk) (i:Int) (m:Xo) (n:Int) (x:X1) (w0:Xkz q) {P1:Prop} (_:P1) {P2:Prop} (_:P2) (w3:Xg7 m) {P4:Prop} (_:P4) {P5:Prop} (_:P5):X6c q t i m n x=some true :=
 Xr8 (X0ar w0) t i (by
  have:=Xwv w3.2.1.2.2
  omega) n x
end Go.D
